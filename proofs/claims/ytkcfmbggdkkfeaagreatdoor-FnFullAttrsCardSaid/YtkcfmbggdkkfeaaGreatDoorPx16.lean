-- By this session's own program (wip/myprint.py) out of the translation; Lean checks it.
import Derived.Test.YtkcfmbggdkkfeaaGreatDoorPx0
import Derived.Test.YtkcfmbggdkkfeaaGreatDoorPx2
import Derived.Test.YtkcfmbggdkkfeaaGreatDoorPx3
import Derived.Test.YtkcfmbggdkkfeaaGreatDoorPx11
import Derived.Test.YtkcfmbggdkkfeaaGreatDoorPx12
import Derived.Test.YtkcfmbggdkkfeaaGreatDoorPx15
namespace Go.Proofs.YtkcfmbggdkkfeaaGreatDoor.P
open Go.RowKit Go.Proofs.YtkcfmbggdkkfeaaGreatDoorW.PrintWords Go.Proofs.YtkcfmbggdkkfeaaGreatDoorW.PrintLast Go.Proofs.YtkcfmbggdkkfeaaGreatDoorW.PrintMore
attribute [local go_sem] max2_int min2_int max_two min_two max_three min_three max_four min_four   -- for this text's walks alone
set_option linter.unusedVariables false
set_option linter.unusedSimpArgs false

/-! ### laws_FnFullAttrs: function 6 -/
def laws_FnFullAttrs.l0 : Nat → List Int → Bool → List ByteArray → Int → List (S51) → Int → Option (Bool)
 | 0, _, _, _, _, _, _ => none
 | k + 1, x0, x4, x5, x6, x550000, x550001 => if x6 < 4 then ((laws_at.f x0 4).bind fun t553 => (if 0 ≤ (Int.tmod (wrap64 (x6 + t553)) 4) then (if (Int.tmod (wrap64 (x6 + t553)) 4) < (x5.length : Int) then ((impl_SetAttr.f k x550000 x550001 (⟨#[47, 100, 105, 114]⟩ : ByteArray) (rdOf ByteArray.empty x5 (Int.tmod (wrap64 (x6 + t553)) 4)) (⟨#[118]⟩ : ByteArray)).bind fun bt555 => (if bt555.2.2 = 0 then (laws_FnFullAttrs.l0 k x0 x4 x5 (wrap64 (x6 + 1)) bt555.1 bt555.2.1) else (none))) else (none)) else (none))) else ((impl_SetAttr.f k x550000 x550001 (⟨#[47, 100, 105, 114]⟩ : ByteArray) (⟨#[101]⟩ : ByteArray) (⟨#[118]⟩ : ByteArray)).bind fun bt561 => ((laws_at.f x0 5).bind fun t567 => (if 0 ≤ (Int.tmod t567 4) then (if (Int.tmod t567 4) < (x5.length : Int) then ((impl_SetAttr.f k x550000 x550001 (⟨#[47, 100, 105, 114]⟩ : ByteArray) (rdOf ByteArray.empty x5 (Int.tmod t567 4)) (⟨#[119]⟩ : ByteArray)).bind fun bt569 => ((laws_at.f x0 5).bind fun t575 => (if 0 ≤ (Int.tmod t575 4) then (if (Int.tmod t575 4) < (x5.length : Int) then ((impl_GetAttr.f k bt569.1 bt569.2.1 (⟨#[47, 100, 105, 114]⟩ : ByteArray) (rdOf ByteArray.empty x5 (Int.tmod t575 4))).bind fun bt577 => (if x4 = true then (if bt561.2.2 = 5 then (if bt569.2.2 = 0 then (if bt577.2 = 0 then (if bt577.1.toList = ([119] : List UInt8) then ((impl_UsageOf.f k bt569.1 bt569.2.1).bind fun t579 => ((impl_UsageOf.f k x550000 x550001).bind fun t580 => (some (t579 == t580)))) else (none)) else (none)) else (none)) else (none)) else (none))) else (none)) else (none)))) else (none)) else (none))))
def laws_FnFullAttrs.f (k : Nat) (l0 : List Int) : Option (Bool) := (laws_big.f l0).bind fun t543 => (if t543 = true then (some true) else ((laws_grown.f k l0).bind fun bt544 => (laws_FnFullAttrs.l0 k l0 bt544.2.2 (([(⟨#[97]⟩ : ByteArray), (⟨#[98]⟩ : ByteArray), (⟨#[99]⟩ : ByteArray), (⟨#[100]⟩ : ByteArray)] : List ByteArray)) 0 bt544.1 bt544.2.1)))
def laws_FnFullAttrs.T8 : Bool × List (List Nat × List Nat) := (true, [([], []), ([], []), ([], []), ([], []), ([3], [3]), ([2, 4], [2, 4]), ([5], [5]), ([1, 6], [1, 6]), ([7], [7]), ([0, 8, 4], [0, 8]), ([9], [9]), ([10], [10]), ([10], [10]), ([], []), ([13, 11, 9, 0, 1, 2, 3, 4, 5, 6, 7, 8, 9, 10, 11, 13], [11, 13]), ([12, 14, 0, 1, 2, 3, 4, 5, 6, 7, 8, 9, 10, 11, 12, 13, 14], [12])])
def laws_FnFullAttrs.B8 : List Nat := [0, 0, 0, 0, 8, 28, 60, 126, 254, 511, 1023, 2047, 2047, 0, 12287, 32767]
theorem laws_FnFullAttrs.tab8 : rtab .any (opsOf Tryz.f6 8) = laws_FnFullAttrs.T8 := by kernel_rfl
theorem laws_FnFullAttrs.bits8 : waitsOk laws_FnFullAttrs.T8.2 laws_FnFullAttrs.B8 = true := by kernel_rfl
def laws_FnFullAttrs.T13 : Bool × List (List Nat × List Nat) := (true, [([], []), ([], []), ([], []), ([2], [2]), ([3], [3]), ([1, 4], [1, 4]), ([5], [5]), ([0, 6, 3], [0, 6]), ([7], [7]), ([8], [8]), ([8], [8]), ([], []), ([11, 9, 7, 0, 1, 2, 3, 4, 5, 6, 7, 8, 9, 11], [9, 11]), ([10, 12, 0, 1, 2, 3, 4, 5, 6, 7, 8, 9, 10, 11, 12], [10])])
def laws_FnFullAttrs.B13 : List Nat := [0, 0, 0, 4, 12, 30, 62, 127, 255, 511, 511, 0, 3071, 8191]
theorem laws_FnFullAttrs.tab13 : rtab .any (opsOf Tryz.f6 13) = laws_FnFullAttrs.T13 := by kernel_rfl
theorem laws_FnFullAttrs.bits13 : waitsOk laws_FnFullAttrs.T13.2 laws_FnFullAttrs.B13 = true := by kernel_rfl
def laws_FnFullAttrs.T14 : Bool × List (List Nat × List Nat) := (true, [([], []), ([], []), ([], []), ([2], [2]), ([3], [3]), ([1, 4], [1, 4]), ([5], [5]), ([0, 6, 3], [0, 6]), ([7], [7]), ([8], [8]), ([8], [8]), ([9, 7, 0, 1, 2, 3, 4, 5, 6, 7, 8, 9], [9]), ([10, 11, 0, 1, 2, 3, 4, 5, 6, 7, 8, 9, 10, 11], [10])])
def laws_FnFullAttrs.B14 : List Nat := [0, 0, 0, 4, 12, 30, 62, 127, 255, 511, 511, 1023, 4095]
theorem laws_FnFullAttrs.tab14 : rtab .any (opsOf Tryz.f6 14) = laws_FnFullAttrs.T14 := by kernel_rfl
theorem laws_FnFullAttrs.bits14 : waitsOk laws_FnFullAttrs.T14.2 laws_FnFullAttrs.B14 = true := by kernel_rfl
def laws_FnFullAttrs.T15 : Bool × List (List Nat × List Nat) := (true, [([], []), ([0], [0]), ([1], [1]), ([2, 1], [1, 2]), ([1, 3], [1, 3]), ([4, 1], [4]), ([5], [5]), ([6, 5], [5, 6]), ([5, 7], [5, 7]), ([8, 5], [8]), ([9], [9]), ([10, 9], [9, 10]), ([9, 11], [9, 11]), ([12, 9], [12]), ([13], [13]), ([14, 13], [13, 14]), ([13, 15], [13, 15]), ([16, 13], [16]), ([17], [17]), ([18, 17, 17], [17, 18]), ([17], [17]), ([20, 19, 17], [17, 20]), ([19, 21, 17], [17, 19, 21]), ([17, 22], [17, 22]), ([23, 21, 0, 1, 2, 3, 4, 5, 6, 7, 8, 9, 10, 11, 12, 13, 14, 15, 16, 17, 18, 19, 20, 21, 22, 23], [23])])
def laws_FnFullAttrs.B15 : List Nat := [0, 1, 3, 7, 15, 31, 63, 127, 255, 511, 1023, 2047, 4095, 8191, 16383, 32767, 65535, 131071, 262143, 524287, 262143, 2097151, 4194303, 8388607, 16777215]
theorem laws_FnFullAttrs.tab15 : rtab .any (opsOf Tryz.f6 15) = laws_FnFullAttrs.T15 := by kernel_rfl
theorem laws_FnFullAttrs.bits15 : waitsOk laws_FnFullAttrs.T15.2 laws_FnFullAttrs.B15 = true := by kernel_rfl
set_option maxHeartbeats 8000000 in
set_option maxRecDepth 100000 in
theorem laws_FnFullAttrs.calls (k : Nat) (A0 : Option Addr) (c0 : Nat) (l0 : List Int) (r : Bool) (w : World) (hr0 : Kd.C (Kd.int .u8) w A0 l0.length l0) (hc0 : l0.length ≤ c0) (h : laws_FnFullAttrs.f k l0 = some r) (hG : GOk w := by exact gk_ oB (by first | (with_reducible assumption) | assumption)) :
  Calls Tryz.prog 6 #[.slice A0 l0.length c0] w fun e w' => e = .returned (.bool r) ∧ Below w.heap.size w w' := by
 have HG := Aside0.mk hG
 clear hG
 have hu26 := Tryz.underlying26
 have HR0 := Aside0.mk hr0
 have HC0 := Aside0.mk hc0
 clear hr0 hc0
 have HB := Aside0.mk (Below.refl w.heap.size w)
 unfold laws_FnFullAttrs.f at h
 have H := h
 clear h
 replace H := bA H
 obtain ⟨t543, A2, H⟩ := H
 try dsimp only at H
 replace H := itB H
 rcases H with ⟨rfl, H⟩ | ⟨rfl, H⟩
 ·obtain rfl := Option.some.inj H
  go_enter Tryz.func6, Tryz.ntmps6
  go_wp2_with (first | ((with_reducible refine gate_callee (f := 11) rfl ?_); refine gl_ 16 Tryz.func11 (laws_big.calls _ _ l0 true _ (kD HR0) HC0.out A2.out) ?_; rintro e w' ⟨rfl, ⟨nd, rfl⟩⟩; refine ⟨_, rfl, ?_⟩))
  go_ret
  exact ⟨oE, oB⟩
 ·replace H := bA H
  obtain ⟨⟨t544, t547, t548⟩, A4, H⟩ := H
  try dsimp only at H
  obtain ⟨y550, hy550⟩ : ∃ y_ : List ByteArray, y_ = (([(⟨#[97]⟩ : ByteArray), (⟨#[98]⟩ : ByteArray), (⟨#[99]⟩ : ByteArray), (⟨#[100]⟩ : ByteArray)] : List ByteArray)) := ⟨_, rfl⟩
  replace H : (laws_FnFullAttrs.l0 k l0 t548 y550 0 t544 t547) = some r := by first | (rw [hy550]; with_reducible exact H) | (have H2_ := (Option.bind_some _ _).symm.trans H; rw [hy550]; with_reducible exact H2_) | (have H2_ := (Option.bind_some _ _).symm.trans H; with_reducible exact H2_) | with_reducible exact H | (rw [hy550]; exact H) | exact H
  have Ny550 := Aside0.mk hy550
  clear hy550
  have H' := Aside0.mk H
  clear H
  go_enter Tryz.func6, Tryz.ntmps6
  go_wp2_with (first | ((with_reducible refine gate_callee (f := 11) rfl ?_); refine gl_ 16 Tryz.func11 (laws_big.calls _ _ l0 false _ (kD HR0) HC0.out A2.out) ?_; rintro e w' ⟨rfl, ⟨nd, rfl⟩⟩; refine ⟨_, rfl, ?_⟩) | ((with_reducible refine gate_callee (f := 21) rfl ?_); refine gl_ 19 Tryz.func21 (laws_grown.calls k _ _ l0 t544 t547 t548 _ (kD HR0) HC0.out A4.out) ?_; rintro e w5 ⟨v545, rfl, ho0, hb⟩; refine ⟨_, rfl, ?_⟩; have HO546 := Aside0.mk (Kd.S_lower ho0 (below_size oB)); replace HB := Aside0.mk (below_step oB hb)) | ((with_reducible refine gate_dst (N := 3) rfl ?_); refine bx_ 3 #[.slice none 0 0, .int .i64 0] 26 ?_; intro gb549 hg w6 hbox hb; have BK549 := Aside0.mk (hbox); have GW549 := gs_ hg; replace HO546 := beS0 HO546 hb; replace HB := Aside0.mk (below_step oB hb); clear hb hbox hg; obtain ⟨Ao7, co7, eo7⟩ := Kd.S_slice HO546.out; subst eo7; obtain ⟨⟨_, _⟩, _, _⟩ := z2 BK549) | ((with_reducible refine gate_dst (N := 22) rfl ?_); refine Kd.R_lit Kd.string _ 9 ?hg (N := 22) ?hd (xs := ([(⟨#[97]⟩ : ByteArray), (⟨#[98]⟩ : ByteArray), (⟨#[99]⟩ : ByteArray), (⟨#[100]⟩ : ByteArray)] : List ByteArray)) (inner := [.string (⟨#[97]⟩ : ByteArray), .string (⟨#[98]⟩ : ByteArray), .string (⟨#[99]⟩ : ByteArray), .string (⟨#[100]⟩ : ByteArray)]) (ok := fun _ => True) (okp := fun _ => True) ?hr ?hp (fun _ hk => hk) trivial (Below.refl _ _) (Nat.le_refl _) (by simp) ?_; (case hd => rfl); (case hg => rfl); (case hr => first | (go_simp; done) | (go_simp; rfl)); (case hp => exact (Reps.one (show Kd.M Kd.string _ _ _ (⟨#[97]⟩ : ByteArray) [.string (⟨#[97]⟩ : ByteArray)] from rfl) (Reps.one (show Kd.M Kd.string _ _ _ (⟨#[98]⟩ : ByteArray) [.string (⟨#[98]⟩ : ByteArray)] from rfl) (Reps.one (show Kd.M Kd.string _ _ _ (⟨#[99]⟩ : ByteArray) [.string (⟨#[99]⟩ : ByteArray)] from rfl) (Reps.one (show Kd.M Kd.string _ _ _ (⟨#[100]⟩ : ByteArray) [.string (⟨#[100]⟩ : ByteArray)] from rfl) (Reps.none _ _)))))); intro v551 w9 ho10 hb hg_ hnew_; clear hg_ hnew_; (first | rw [← Ny550.out] at ho10 | (simp only [Int.reduceToNat] at ho10; rw [← Ny550.out] at ho10)); have HO552 := Aside0.mk (Kd.R_lower ho10 (below_size oB)); replace HO546 := beS1 HO546 BK549 hb; replace BK549 := kp_ #[.slice Ao7 t544.length co7, .int .i64 t547] BK549 hb; replace HB := Aside0.mk (below_step oB hb); clear hb ho10))
  go_loopg [6] k (fun kq v6 w' => ∃ (x6_1 : Int) (x550000_1 : List (S51)) (x550001_1 : Int) (u550000 : Value), v6 = .int .i64 x6_1 ∧ Aside0 (laws_FnFullAttrs.l0 kq l0 t548 y550 x6_1 x550000_1 x550001_1 = some r) ∧ Aside0 (kq ≤ k) ∧ Aside0 (Kd.R Kd.string 9 w' w.heap.size (fun _ => True) v551 y550) ∧ Aside0 (Kd.S k51 51 w' w.heap.size (fun _ => True) u550000 x550000_1) ∧ Aside0 (w'.heap[gb549]? = some (.cells #[u550000, .int .i64 x550001_1] 26 (0, 0))) ∧ Aside0 (Below w.heap.size w w'))
  case atStart => exact ⟨(0), (t544), (t547), (.slice Ao7 t544.length co7), oS, H', ⟨Nat.le_refl _⟩, ⟨oR HO552⟩, ⟨by (with_reducible repeat (first | apply Kd.S_alloc | apply Kd.S_drewN | apply Kd.S_drew)); exact HO546.out⟩, ⟨oF BK549⟩, ⟨oB⟩⟩
  case round =>
   clear H'
   obtain ⟨x6_1, x550000_1, x550001_1, u550000, rfl, HA, HK1, HO_5, HO_550000, BK549, HB⟩ := hrel
   cases gk with
   | zero => exact absurd HA.out (by simp [laws_FnFullAttrs.l0])
   | succ k1 =>
    have H := HA.out
    clear HA
    simp only [laws_FnFullAttrs.l0] at H
    replace H := itD H
    rcases H with ⟨c11b0, H⟩ | ⟨c11b0, H⟩
    ·replace H := bA H
     obtain ⟨t553, A12, H⟩ := H
     try dsimp only at H
     obtain ⟨ji13, hji13⟩ : ∃ j_ : Int, (Int.tmod (wrap64 (x6_1 + t553)) 4) = j_ := ⟨_, rfl⟩
     replace H : (if 0 ≤ (ji13) then (if (ji13) < (y550.length : Int) then ((impl_SetAttr.f k1 x550000_1 x550001_1 (⟨#[47, 100, 105, 114]⟩ : ByteArray) (rdOf ByteArray.empty y550 (ji13)) (⟨#[118]⟩ : ByteArray)).bind fun bt555 => (if bt555.2.2 = 0 then (laws_FnFullAttrs.l0 k1 l0 t548 y550 (wrap64 (x6_1 + 1)) bt555.1 bt555.2.1) else (none))) else (none)) else (none)) = some r := by first | (rw [hji13] at H; exact H) | (simp only [hji13] at H ⊢; exact H)
     (try rw [hji13] at A12)
     replace H := itD H
     rcases H with ⟨c14b0, H⟩ | ⟨c14b0, H⟩
     ·replace H := itD H
      rcases H with ⟨c15b0, H⟩ | ⟨c15b0, H⟩
      ·replace H := bA H
       obtain ⟨⟨t555, t558, t559⟩, A16, H⟩ := H
       try dsimp only at H
       by_cases c17 : t559 = 0
       ·rw [if_pos c17] at H
        have c17b0 : (t559 == 0) = true := beq_iff_eq.mpr c17
        have c17b1 : (t559 != 0) = false := bne_eq_false_iff_eq.mpr c17
        clear c17
        have H' := Aside0.mk H
        clear H
        obtain ⟨Ao18, co18, eo18⟩ := Kd.S_slice HO_550000.out
        subst eo18
        try go_wp2
        replace HO_5 := Aside0.mk (Kd.R_drew HO_5.out)
        replace HO_550000 := Aside0.mk (Kd.S_drew HO_550000.out)
        replace BK549 := Aside0.mk (blk_drew BK549.out)
        replace HB := Aside0.mk (below_drew1 HB.out)
        have p554 : (0 ≤ ((ji13) : Int)) = True := oT
        have q554 : ((ji13) < (y550.length : Int)) = True := oT
        obtain ⟨Af554, cf554, ef554⟩ := Kd.R_slice HO_5.out
        subst ef554
        obtain ⟨ad554, e554, hx554_0⟩ := Kd.at_string (Kd.R_reads' HO_5.out).2.2 (ji13) oa oa
        cases e554
        refine st_ 16 (fun w' => w'.cell? ⟨gb549, 0, none⟩ = some (.slice Ao18 x550000_1.length co18) ∧ w'.cell? ⟨gb549, 1, none⟩ = some (.int .i64 x550001_1) ∧ w'.cell? (ad554.add ((ji13)).toNat) = some (.string (rdOf ByteArray.empty y550 (ji13)))) laws_FnFullAttrs.tab8 laws_FnFullAttrs.bits8 ⟨(blk_cell BK549.out 0).trans rfl, (blk_cell BK549.out 1).trans rfl, hx554_0⟩ (fun hHeld HT_ HW_ => ?_)
        generalize wr.drew = w19 at HO_5 HO_550000 BK549 HB hx554_0 hHeld ⊢
        refine pu_ 1 29 HT_ ?_
        refine pu_ 2 30 HT_ ?_
        refine pu_ 3 31 HT_ ?_
        refine ta_ 0 28 HT_ HW_ hHeld ?_
        refine join_ (σ := Value × Nat) 2 (lb 16 16383) (fun s_ => [(32, .int .i64 t553), (37, .tuple #[.agg #[s_.1, .int .i64 t558], .int .i64 t559]), (7, .pointer (some ⟨s_.2, 0, none⟩)), (33, .int .i64 (wrap64 (x6_1 + t553))), (34, .int .i64 ji13), (35, .pointer (some (ad554.add ((ji13)).toNat))), (36, .string (rdOf ByteArray.empty y550 (ji13))), (27, .tuple #[.agg #[s_.1, .int .i64 t558], .int .i64 t559]), (38, .agg #[s_.1, .int .i64 t558]), (39, .int .i64 t559)]) (fun s_ w' => (w'.cell? ⟨gb549, 0, none⟩ = some (.slice Ao18 x550000_1.length co18) ∧ w'.cell? ⟨gb549, 1, none⟩ = some (.int .i64 x550001_1) ∧ w'.cell? (ad554.add ((ji13)).toNat) = some (.string (rdOf ByteArray.empty y550 (ji13)))) ∧ (Kd.S k51 51 w' w.heap.size (fun k_ => some k_ ≠ (.slice Ao18 x550000_1.length co18 : Value).ownBlock) s_.1 t555) ∧ (Kd.R Kd.string 9 w' w.heap.size (fun _ => True) (.slice (some ad554) y550.length cf554) y550) ∧ (Kd.S k51 51 w' w.heap.size (fun k_ => some k_ ≠ (s_.1 : Value).ownBlock) (.slice Ao18 x550000_1.length co18) x550000_1) ∧ (w'.heap[gb549]? = some (.cells #[.slice Ao18 x550000_1.length co18, .int .i64 x550001_1] 26 (0, 0))) ∧ (w'.heap[s_.2]? = some (.cells #[.slice none 0 0, .int .i64 0] 26 (0, 0))) ∧ (w.heap.size ≤ s_.2) ∧ (w.heap.size ≤ s_.2) ∧ (gb549 ≠ s_.2) ∧ (s_.2 ≠ gb549) ∧ (Below w.heap.size w w')) ?_ ?_
        rotate_left
        ·intro hCont
         refine two_ (i := 4) (j := 13) (Ni := some 32) (Nj := some 7) (lb 16 31) (lb 16 8207) rfl rfl rfl rfl (two_of HT_.out (by kernel_rfl)) (by decide) (by decide) (fun K hK => ?_) (fun K hK => ?_)
         ·skip
          refine gr_ 32 Tryz.func20 (laws_at.calls _ _ l0 4 t553 _ (kC HR0) HC0.out A12.out) ?_
          rintro e w' ⟨rfl, ⟨nd, rfl⟩⟩
          refine ⟨_, rfl, ?_⟩
          refine hk_ hK 32 ⟨(blk_cell BK549.out 0).trans rfl, (blk_cell BK549.out 1).trans rfl, hHeld.2.2⟩ (fun hHeld => ?_)
          clear hK K
          refine pu_ 5 33 HT_ ?_
          refine pu_ 6 34 HT_ ?_
          refine pu_ 7 35 HT_ ?_
          refine ta_ 8 36 HT_ HW_ hHeld ?_
          refine two_ (i := 9) (j := 13) (Ni := some 37) (Nj := some 7) (lb 16 1023) (lb 16 8703) rfl rfl rfl rfl (two_of HT_.out (by kernel_rfl)) (by decide) (by decide) (fun K hK => ?_) (fun K hK => ?_)
          ·skip
           refine goes_ Tryz.func25 (by kernel_rfl) rfl #[.agg #[.slice Ao18 x550000_1.length co18, .int .i64 x550001_1], .string (⟨#[47, 100, 105, 114]⟩ : ByteArray), .string (rdOf ByteArray.empty y550 (ji13)), .string (⟨#[118]⟩ : ByteArray)] (by rfl) rfl rfl (by (try simp only [List.map_toArray, List.map_cons, List.map_nil]); first | done | (simp only [hji13]; rfl) | rfl | (simp only [List.length_drop, List.length_take]; rfl)) ?_
           with_reducible refine (impl_SetAttr.calls k1 _ _ x550000_1 x550001_1 (⟨#[47, 100, 105, 114]⟩ : ByteArray) (rdOf ByteArray.empty y550 (ji13)) (⟨#[118]⟩ : ByteArray) t555 t558 t559 _ (rcS0 HO_550000) (rnS HO_550000) A16.out).mono ?_
           rintro e w20 ⟨v556, rfl, ho0, hb⟩
           have HS2_ := (hb.cell (World.block_lt_of_cell? _ _ (hHeld.2.2))).trans (hHeld.2.2)
           refine ⟨_, rfl, ?_⟩
           have HO557 := Aside0.mk (Kd.S_lower (Kd.S_new' ho0 (ltS0 HO_550000)) (below_size oB))
           replace HO_5 := kr_ HO_5 hb
           replace HO_550000 := elS0 HO_550000 (Kd.S_base ho0) hb
           replace BK549 := kb_ BK549 hb
           replace HB := Aside0.mk (below_step oB hb)
           refine hk_ hK 37 ⟨(blk_cell BK549.out 0).trans rfl, (blk_cell BK549.out 1).trans rfl, HS2_⟩ (fun hHeld => ?_)
           clear hK K
           refine pu_ 10 27 HT_ ?_
           refine pu_ 11 38 HT_ ?_
           refine pu_ 12 39 HT_ ?_
           refine on_ 13 7 HT_ (fun K hK => ?_)
           refine box_step ?hg (N := 7) ?hd (cs := #[.slice none 0 0, .int .i64 0]) (t := 26) ?hr ?_; (case hd => rfl); (case hg => rfl); (case hr => first | (go_simp; done) | (go_simp; rfl))
           intro gb560 hg w21 hbox hb
           have HS2_ := (hb.cell (World.block_lt_of_cell? _ _ (hHeld.2.2))).trans (hHeld.2.2)
           have BK560 := Aside0.mk (hbox)
           have GW560 := gs_ hg
           have GE560 := gs_ hg
           have NB549_560 := nl_ hg BK549
           have NB560_549 := nr_ hg BK549
           replace HO_5 := kr_ HO_5 hb
           replace HO_550000 := beS0 HO_550000 hb
           replace HO557 := beS0 HO557 hb
           replace BK549 := kb_ BK549 hb
           replace HB := Aside0.mk (below_step oB hb)
           clear hb hbox hg
           refine hk_ hK 7 ⟨(blk_cell BK549.out 0).trans rfl, (blk_cell BK549.out 1).trans rfl, HS2_⟩ (fun hHeld => ?_)
           clear hK K
           exact norm_ (by simp only [putAll, Act.put, List.setIfInBounds_toArray, List.set_cons_zero, List.set_cons_succ]) (hCont (v556, gb560) _ ⟨hHeld, (by (with_reducible repeat (first | apply Kd.S_alloc | apply Kd.S_drewN | apply Kd.S_drew)); exact Kd.S_mono HO557.out (fun _ hk => hk.2)), (oR HO_5), (by (with_reducible repeat (first | apply Kd.S_alloc | apply Kd.S_drewN | apply Kd.S_drew)); exact Kd.S_mono HO_550000.out (fun _ hk => hk.2)), (oF BK549), (oF BK560), GW560.out, GE560.out, NB549_560.out, NB560_549.out, oB⟩)
          ·skip
           refine box_step ?hg (N := 7) ?hd (cs := #[.slice none 0 0, .int .i64 0]) (t := 26) ?hr ?_; (case hd => rfl); (case hg => rfl); (case hr => first | (go_simp; done) | (go_simp; rfl))
           intro gb560 hg w20 hbox hb
           have HS2_ := (hb.cell (World.block_lt_of_cell? _ _ (hHeld.2.2))).trans (hHeld.2.2)
           have BK560 := Aside0.mk (hbox)
           have GW560 := gs_ hg
           have GE560 := gs_ hg
           have NB549_560 := nl_ hg BK549
           have NB560_549 := nr_ hg BK549
           replace HO_5 := kr_ HO_5 hb
           replace HO_550000 := beS0 HO_550000 hb
           replace BK549 := kb_ BK549 hb
           replace HB := Aside0.mk (below_step oB hb)
           clear hb hbox hg
           refine hk_ hK 7 ⟨(blk_cell BK549.out 0).trans rfl, (blk_cell BK549.out 1).trans rfl, HS2_⟩ (fun hHeld => ?_)
           clear hK K
           refine on_ 9 37 HT_ (fun K hK => ?_)
           refine goes_ Tryz.func25 (by kernel_rfl) rfl #[.agg #[.slice Ao18 x550000_1.length co18, .int .i64 x550001_1], .string (⟨#[47, 100, 105, 114]⟩ : ByteArray), .string (rdOf ByteArray.empty y550 (ji13)), .string (⟨#[118]⟩ : ByteArray)] (by rfl) rfl rfl (by (try simp only [List.map_toArray, List.map_cons, List.map_nil]); first | done | (simp only [hji13]; rfl) | rfl | (simp only [List.length_drop, List.length_take]; rfl)) ?_
           with_reducible refine (impl_SetAttr.calls k1 _ _ x550000_1 x550001_1 (⟨#[47, 100, 105, 114]⟩ : ByteArray) (rdOf ByteArray.empty y550 (ji13)) (⟨#[118]⟩ : ByteArray) t555 t558 t559 _ (rcS0 HO_550000) (rnS HO_550000) A16.out).mono ?_
           rintro e w21 ⟨v556, rfl, ho0, hb⟩
           have HS2_ := (hb.cell (World.block_lt_of_cell? _ _ (hHeld.2.2))).trans (hHeld.2.2)
           refine ⟨_, rfl, ?_⟩
           have HO557 := Aside0.mk (Kd.S_lower (Kd.S_new' ho0 (ltS0 HO_550000)) (below_size oB))
           replace HO_5 := kr_ HO_5 hb
           replace HO_550000 := elS0 HO_550000 (Kd.S_base ho0) hb
           replace BK549 := kb_ BK549 hb
           replace BK560 := kb_ BK560 hb
           replace HB := Aside0.mk (below_step oB hb)
           refine hk_ hK 37 ⟨(blk_cell BK549.out 0).trans rfl, (blk_cell BK549.out 1).trans rfl, HS2_⟩ (fun hHeld => ?_)
           clear hK K
           refine pu_ 10 27 HT_ ?_
           refine pu_ 11 38 HT_ ?_
           refine pu_ 12 39 HT_ ?_
           exact norm_ (by simp only [putAll, Act.put, List.setIfInBounds_toArray, List.set_cons_zero, List.set_cons_succ]) (hCont (v556, gb560) _ ⟨hHeld, (by (with_reducible repeat (first | apply Kd.S_alloc | apply Kd.S_drewN | apply Kd.S_drew)); exact Kd.S_mono HO557.out (fun _ hk => hk.2)), (oR HO_5), (by (with_reducible repeat (first | apply Kd.S_alloc | apply Kd.S_drewN | apply Kd.S_drew)); exact Kd.S_mono HO_550000.out (fun _ hk => hk.2)), (oF BK549), (oF BK560), GW560.out, GE560.out, NB549_560.out, NB560_549.out, oB⟩)
         ·skip
          refine box_step ?hg (N := 7) ?hd (cs := #[.slice none 0 0, .int .i64 0]) (t := 26) ?hr ?_; (case hd => rfl); (case hg => rfl); (case hr => first | (go_simp; done) | (go_simp; rfl))
          intro gb560 hg w20 hbox hb
          have HS2_ := (hb.cell (World.block_lt_of_cell? _ _ (hHeld.2.2))).trans (hHeld.2.2)
          have BK560 := Aside0.mk (hbox)
          have GW560 := gs_ hg
          have GE560 := gs_ hg
          have NB549_560 := nl_ hg BK549
          have NB560_549 := nr_ hg BK549
          replace HO_5 := kr_ HO_5 hb
          replace HO_550000 := beS0 HO_550000 hb
          replace BK549 := kb_ BK549 hb
          replace HB := Aside0.mk (below_step oB hb)
          clear hb hbox hg
          refine hk_ hK 7 ⟨(blk_cell BK549.out 0).trans rfl, (blk_cell BK549.out 1).trans rfl, HS2_⟩ (fun hHeld => ?_)
          clear hK K
          refine on_ 4 32 HT_ (fun K hK => ?_)
          refine gr_ 32 Tryz.func20 (laws_at.calls _ _ l0 4 t553 _ (kC HR0) HC0.out A12.out) ?_
          rintro e w' ⟨rfl, ⟨nd, rfl⟩⟩
          refine ⟨_, rfl, ?_⟩
          refine hk_ hK 32 ⟨(blk_cell BK549.out 0).trans rfl, (blk_cell BK549.out 1).trans rfl, hHeld.2.2⟩ (fun hHeld => ?_)
          clear hK K
          refine pu_ 5 33 HT_ ?_
          refine pu_ 6 34 HT_ ?_
          refine pu_ 7 35 HT_ ?_
          refine ta_ 8 36 HT_ HW_ hHeld ?_
          refine on_ 9 37 HT_ (fun K hK => ?_)
          refine goes_ Tryz.func25 (by kernel_rfl) rfl #[.agg #[.slice Ao18 x550000_1.length co18, .int .i64 x550001_1], .string (⟨#[47, 100, 105, 114]⟩ : ByteArray), .string (rdOf ByteArray.empty y550 (ji13)), .string (⟨#[118]⟩ : ByteArray)] (by rfl) rfl rfl (by (try simp only [List.map_toArray, List.map_cons, List.map_nil]); first | done | (simp only [hji13]; rfl) | rfl | (simp only [List.length_drop, List.length_take]; rfl)) ?_
          with_reducible refine (impl_SetAttr.calls k1 _ _ x550000_1 x550001_1 (⟨#[47, 100, 105, 114]⟩ : ByteArray) (rdOf ByteArray.empty y550 (ji13)) (⟨#[118]⟩ : ByteArray) t555 t558 t559 _ (rcS0 HO_550000) (rnS HO_550000) A16.out).mono ?_
          rintro e w21 ⟨v556, rfl, ho0, hb⟩
          have HS2_ := (hb.cell (World.block_lt_of_cell? _ _ (hHeld.2.2))).trans (hHeld.2.2)
          refine ⟨_, rfl, ?_⟩
          have HO557 := Aside0.mk (Kd.S_lower (Kd.S_new' ho0 (ltS0 HO_550000)) (below_size oB))
          replace HO_5 := kr_ HO_5 hb
          replace HO_550000 := elS0 HO_550000 (Kd.S_base ho0) hb
          replace BK549 := kb_ BK549 hb
          replace BK560 := kb_ BK560 hb
          replace HB := Aside0.mk (below_step oB hb)
          refine hk_ hK 37 ⟨(blk_cell BK549.out 0).trans rfl, (blk_cell BK549.out 1).trans rfl, HS2_⟩ (fun hHeld => ?_)
          clear hK K
          refine pu_ 10 27 HT_ ?_
          refine pu_ 11 38 HT_ ?_
          refine pu_ 12 39 HT_ ?_
          exact norm_ (by simp only [putAll, Act.put, List.setIfInBounds_toArray, List.set_cons_zero, List.set_cons_succ]) (hCont (v556, gb560) _ ⟨hHeld, (by (with_reducible repeat (first | apply Kd.S_alloc | apply Kd.S_drewN | apply Kd.S_drew)); exact Kd.S_mono HO557.out (fun _ hk => hk.2)), (oR HO_5), (by (with_reducible repeat (first | apply Kd.S_alloc | apply Kd.S_drewN | apply Kd.S_drew)); exact Kd.S_mono HO_550000.out (fun _ hk => hk.2)), (oF BK549), (oF BK560), GW560.out, GE560.out, NB549_560.out, NB560_549.out, oB⟩)
        rintro ⟨v556, gb560⟩ w22 ⟨hS_, h0_, h1_, h2_, h3_, h4_, h5_, h6_, h7_, h8_, h9_⟩
        have n0_ : Aside0 (Kd.S k51 51 w22 w.heap.size (fun k_ => some k_ ≠ (.slice Ao18 x550000_1.length co18 : Value).ownBlock) v556 t555) := ⟨h0_⟩
        have n1_ : Aside0 (Kd.R Kd.string 9 w22 w.heap.size (fun _ => True) (.slice (some ad554) y550.length cf554) y550) := ⟨h1_⟩
        have n2_ : Aside0 (Kd.S k51 51 w22 w.heap.size (fun k_ => some k_ ≠ (v556 : Value).ownBlock) (.slice Ao18 x550000_1.length co18) x550000_1) := ⟨h2_⟩
        have n3_ : Aside0 (w22.heap[gb549]? = some (.cells #[.slice Ao18 x550000_1.length co18, .int .i64 x550001_1] 26 (0, 0))) := ⟨h3_⟩
        have n4_ : Aside0 (w22.heap[gb560]? = some (.cells #[.slice none 0 0, .int .i64 0] 26 (0, 0))) := ⟨h4_⟩
        have n5_ : Aside0 (w.heap.size ≤ gb560) := ⟨h5_⟩
        have n6_ : Aside0 (w.heap.size ≤ gb560) := ⟨h6_⟩
        have n7_ : Aside0 (gb549 ≠ gb560) := ⟨h7_⟩
        have n8_ : Aside0 (gb560 ≠ gb549) := ⟨h8_⟩
        have n9_ : Aside0 (Below w.heap.size w w22) := ⟨h9_⟩
        clear HO_5
        clear HO_550000
        clear BK549
        clear HB
        clear h0_ h1_ h2_ h3_ h4_ h5_ h6_ h7_ h8_ h9_
        have HO557 := n0_
        have HO_5 := n1_
        have HO_550000 := n2_
        have BK549 := n3_
        have BK560 := n4_
        have GW560 := n5_
        have GE560 := n6_
        have NB549_560 := n7_
        have NB560_549 := n8_
        have HB := n9_
        clear n0_ n1_ n2_ n3_ n4_ n5_ n6_ n7_ n8_ n9_
        have hHeld : w22.cell? ⟨gb549, 0, none⟩ = some (.slice Ao18 x550000_1.length co18) ∧ w22.cell? ⟨gb549, 1, none⟩ = some (.int .i64 x550001_1) ∧ w22.cell? (ad554.add ((ji13)).toNat) = some (.string (rdOf ByteArray.empty y550 (ji13))) := hS_
        obtain ⟨Ao24, co24, eo24⟩ := Kd.S_slice HO557.out
        (first | subst eo24 | (injection eo24 with f1_ f2_ f3_; have f4_ := f1_.symm; have f5_ := f3_.symm; clear f1_ f2_ f3_; subst f4_; subst f5_))
        refine norm_ (a' := ?_) ?_ ?_
        rotate_left
        ·simp only [putAll, Act.put, List.setIfInBounds_toArray, List.set_cons_zero, List.set_cons_succ]
         rfl
        refine one_ (i := 14) (N := none) (lb 16 32767) rfl rfl (one_of HT_.out (by kernel_rfl)) (by decide) (fun K hK => ?_)
        have hs25 : w22.cell? ⟨gb560, 0, none⟩ = some (.slice none 0 0) := (blk_cell BK560.out 0).trans rfl
        have hfs25 := blk_frozen BK560.out 0
        have hns25_0 := NB549_560.out
        have hms25_0 := NB560_549.out
        have hs26 : w22.cell? ⟨gb560, 1, none⟩ = some (.int .i64 0) := (blk_cell BK560.out 1).trans rfl
        have hfs26 := blk_frozen BK560.out 1
        have hns26_0 := NB549_560.out
        have hms26_0 := NB560_549.out
        refine skip_ (w1 := ?_) (by rfl) rfl ?_ ?_
        rotate_left
        ·go_simp
         rfl
        refine hK.out _ _ ⟨((cell_far (p := ⟨gb560, _, none⟩) NB549_560.out _).trans (((cell_far (p := ⟨gb560, _, none⟩) NB549_560.out _).trans (hHeld.1)))), ((cell_far (p := ⟨gb560, _, none⟩) NB549_560.out _).trans (((cell_far (p := ⟨gb560, _, none⟩) NB549_560.out _).trans (hHeld.2.1)))), ((cell_far (p := ⟨gb560, _, none⟩) (by first | exact Kd.own_blk (Kd.R_ne HO_5.out BK560.out (by decide)) | (rw [add_block]; exact Kd.own_blk (Kd.R_ne HO_5.out BK560.out (by decide))) | (show (Addr.add _ _).block ≠ _; rw [add_block]; exact Kd.own_blk (Kd.R_ne HO_5.out BK560.out (by decide))) | (dsimp only; exact Kd.own_blk (Kd.R_ne HO_5.out BK560.out (by decide)))) _).trans (((cell_far (p := ⟨gb560, _, none⟩) (by first | exact Kd.own_blk (Kd.R_ne HO_5.out BK560.out (by decide)) | (rw [add_block]; exact Kd.own_blk (Kd.R_ne HO_5.out BK560.out (by decide))) | (show (Addr.add _ _).block ≠ _; rw [add_block]; exact Kd.own_blk (Kd.R_ne HO_5.out BK560.out (by decide))) | (dsimp only; exact Kd.own_blk (Kd.R_ne HO_5.out BK560.out (by decide)))) _).trans (hHeld.2.2))))⟩ (fun hHeld => ?_)
        clear hK K
        refine pu_ 15 8 HT_ ?_
        refine dn_ HT_ ?_
        have hnb27 := NB560_549.out
        have hnc27 := NB549_560.out
        obtain ⟨⟨_, _⟩, _, _⟩ := z2 BK560
        obtain ⟨⟨_, _⟩, _, _⟩ := z2 BK549
        try go_wp2
        go_roundg k1
        case measure => have := HK1.out; omega
        case rel => exact ⟨(wrap64 (x6_1 + 1)), (t555), (t558), (.slice Ao24 t555.length co24), oS, H', ⟨by have := HK1.out; omega⟩, ⟨by (with_reducible repeat (first | apply Kd.R_alloc | apply Kd.R_drewN | apply Kd.R_drew)); exact Kd.R_mono (Kd.R_far (p := ⟨gb549, 1, none⟩) (Kd.R_far (p := ⟨gb549, 0, none⟩) (Kd.R_far (p := ⟨gb560, 1, none⟩) (Kd.R_far (p := ⟨gb560, 0, none⟩) (Kd.R_types (Kd.R_types HO_5.out BK560.out (by decide)) BK549.out (by decide)) (fun _ hk => hk.1.2) (.slice Ao24 t555.length co24)) (fun _ hk => hk.1.2) (.int .i64 t558)) (fun _ hk => hk.2) (.slice Ao24 t555.length co24)) (fun _ hk => hk.2) (.int .i64 t558)) (fun _ hk => trivial)⟩, ⟨by (with_reducible repeat (first | apply Kd.S_alloc | apply Kd.S_drewN | apply Kd.S_drew)); exact Kd.S_mono (Kd.S_far (p := ⟨gb549, 1, none⟩) (Kd.S_far (p := ⟨gb549, 0, none⟩) (Kd.S_far (p := ⟨gb560, 1, none⟩) (Kd.S_far (p := ⟨gb560, 0, none⟩) (Kd.S_types (Kd.S_types HO557.out BK560.out (by decide)) BK549.out (by decide)) (fun _ hk => hk.1.2) (.slice Ao24 t555.length co24)) (fun _ hk => hk.1.2) (.int .i64 t558)) (fun _ hk => hk.2) (.slice Ao24 t555.length co24)) (fun _ hk => hk.2) (.int .i64 t558)) (fun _ hk => trivial)⟩, ⟨oP BK549⟩, ⟨oB⟩⟩
       ·rw [if_neg c17] at H
        cases H
      ·cases H
     ·cases H
    ·replace H := bA H
     obtain ⟨⟨t561, t564, t565⟩, A39, H⟩ := H
     try dsimp only at H
     replace H := bA H
     obtain ⟨t567, A40, H⟩ := H
     try dsimp only at H
     obtain ⟨ji41, hji41⟩ : ∃ j_ : Int, (Int.tmod t567 4) = j_ := ⟨_, rfl⟩
     replace H : (if 0 ≤ (ji41) then (if (ji41) < (y550.length : Int) then ((impl_SetAttr.f k1 x550000_1 x550001_1 (⟨#[47, 100, 105, 114]⟩ : ByteArray) (rdOf ByteArray.empty y550 (ji41)) (⟨#[119]⟩ : ByteArray)).bind fun bt569 => ((laws_at.f l0 5).bind fun t575 => (if 0 ≤ (Int.tmod t575 4) then (if (Int.tmod t575 4) < (y550.length : Int) then ((impl_GetAttr.f k1 bt569.1 bt569.2.1 (⟨#[47, 100, 105, 114]⟩ : ByteArray) (rdOf ByteArray.empty y550 (Int.tmod t575 4))).bind fun bt577 => (if t548 = true then (if t565 = 5 then (if bt569.2.2 = 0 then (if bt577.2 = 0 then (if bt577.1.toList = ([119] : List UInt8) then ((impl_UsageOf.f k1 bt569.1 bt569.2.1).bind fun t579 => ((impl_UsageOf.f k1 x550000_1 x550001_1).bind fun t580 => (some (t579 == t580)))) else (none)) else (none)) else (none)) else (none)) else (none))) else (none)) else (none)))) else (none)) else (none)) = some r := by first | (rw [hji41] at H; exact H) | (simp only [hji41] at H ⊢; exact H)
     (try rw [hji41] at A39)
     (try rw [hji41] at A40)
     replace H := itD H
     rcases H with ⟨c42b0, H⟩ | ⟨c42b0, H⟩
     ·replace H := itD H
      rcases H with ⟨c43b0, H⟩ | ⟨c43b0, H⟩
      ·replace H := bA H
       obtain ⟨⟨t569, t572, t573⟩, A44, H⟩ := H
       try dsimp only at H
       replace H := bA H
       obtain ⟨t575, A45, H⟩ := H
       try dsimp only at H
       obtain ⟨ji46, hji46⟩ : ∃ j_ : Int, (Int.tmod t575 4) = j_ := ⟨_, rfl⟩
       replace H : (if 0 ≤ (ji46) then (if (ji46) < (y550.length : Int) then ((impl_GetAttr.f k1 t569 t572 (⟨#[47, 100, 105, 114]⟩ : ByteArray) (rdOf ByteArray.empty y550 (ji46))).bind fun bt577 => (if t548 = true then (if t565 = 5 then (if t573 = 0 then (if bt577.2 = 0 then (if bt577.1.toList = ([119] : List UInt8) then ((impl_UsageOf.f k1 t569 t572).bind fun t579 => ((impl_UsageOf.f k1 x550000_1 x550001_1).bind fun t580 => (some (t579 == t580)))) else (none)) else (none)) else (none)) else (none)) else (none))) else (none)) else (none)) = some r := by first | (rw [hji46] at H; exact H) | (simp only [hji46] at H ⊢; exact H)
       (try rw [hji46] at A39)
       (try rw [hji46] at A40)
       (try rw [hji46] at A44)
       (try rw [hji46] at A45)
       replace H := itD H
       rcases H with ⟨c47b0, H⟩ | ⟨c47b0, H⟩
       ·replace H := itD H
        rcases H with ⟨c48b0, H⟩ | ⟨c48b0, H⟩
        ·replace H := bA H
         obtain ⟨⟨t577, t578⟩, A49, H⟩ := H
         try dsimp only at H
         replace H := itB H
         rcases H with ⟨rfl, H⟩ | ⟨rfl, H⟩
         ·by_cases c51 : t565 = 5
          ·rw [if_pos c51] at H
           have c51b0 : (t565 == 5) = true := beq_iff_eq.mpr c51
           have c51b1 : (t565 != 5) = false := bne_eq_false_iff_eq.mpr c51
           clear c51
           by_cases c52 : t573 = 0
           ·rw [if_pos c52] at H
            have c52b0 : (t573 == 0) = true := beq_iff_eq.mpr c52
            have c52b1 : (t573 != 0) = false := bne_eq_false_iff_eq.mpr c52
            clear c52
            by_cases c53 : t578 = 0
            ·rw [if_pos c53] at H
             have c53b0 : (t578 == 0) = true := beq_iff_eq.mpr c53
             have c53b1 : (t578 != 0) = false := bne_eq_false_iff_eq.mpr c53
             clear c53
             by_cases c54 : t577.toList = ([119] : List UInt8)
             ·rw [if_pos c54] at H
              have c54b0 : (t577.toList == ([119] : List UInt8)) = true := beq_iff_eq.mpr c54
              have c54b1 : (t577.toList != ([119] : List UInt8)) = false := bne_eq_false_iff_eq.mpr c54
              clear c54
              replace H := bA H
              obtain ⟨t579, A55, H⟩ := H
              try dsimp only at H
              replace H := bA H
              obtain ⟨t580, A56, H⟩ := H
              try dsimp only at H
              obtain rfl := Option.some.inj H
              obtain ⟨⟨_, _⟩, _, _⟩ := z2 BK549
              obtain ⟨Ao58, co58, eo58⟩ := Kd.S_slice HO_550000.out
              subst eo58
              try go_wp2_with (first | ((with_reducible refine gate_callee (f := 25) rfl ?_); refine gl_ 45 Tryz.func25 (impl_SetAttr.calls k1 _ _ x550000_1 x550001_1 (⟨#[47, 100, 105, 114]⟩ : ByteArray) (⟨#[101]⟩ : ByteArray) (⟨#[118]⟩ : ByteArray) t561 t564 t565 _ (rcS0 HO_550000) (rnS HO_550000) A39.out) ?_; rintro e w59 ⟨v562, rfl, ho0, hb⟩; refine ⟨_, rfl, ?_⟩; have HO563 := Aside0.mk (Kd.S_lower (Kd.S_new' ho0 (ltS0 HO_550000)) (below_size oB)); replace HO_5 := kr_ HO_5 hb; replace HO_550000 := elS0 HO_550000 (Kd.S_base ho0) hb; replace BK549 := kb_ BK549 hb; replace HB := Aside0.mk (below_step oB hb)) | ((with_reducible refine gate_dst (N := 9) rfl ?_); refine bx_ 9 #[.slice none 0 0, .int .i64 0] 26 ?_; intro gb566 hg w60 hbox hb; have BK566 := Aside0.mk (hbox); have GW566 := gs_ hg; have NB549_566 := nl_ hg BK549; have NB566_549 := nr_ hg BK549; replace HO_5 := kr_ HO_5 hb; replace HO_550000 := beS0 HO_550000 hb; replace HO563 := beS0 HO563 hb; replace BK549 := kb_ BK549 hb; replace HB := Aside0.mk (below_step oB hb); clear hb hbox hg; obtain ⟨Ao61, co61, eo61⟩ := Kd.S_slice HO563.out; subst eo61; have hnb62 := NB566_549.out; have hnc62 := NB549_566.out; obtain ⟨⟨_, _⟩, _, _⟩ := z2 BK566))
              have n0_ : Aside0 (Kd.R Kd.string 9 ((w60.setCell ⟨gb566, 0, none⟩ (.slice Ao61 t561.length co61)).setCell ⟨gb566, 1, none⟩ (.int .i64 t564)) w.heap.size (fun _ => True) v551 y550) := ⟨by (with_reducible repeat (first | apply Kd.R_alloc | apply Kd.R_drewN | apply Kd.R_drew)); exact Kd.R_mono (Kd.R_far (p := ⟨gb566, 1, none⟩) (Kd.R_far (p := ⟨gb566, 0, none⟩) (Kd.R_types HO_5.out BK566.out (by decide)) (fun _ hk => hk.2) (.slice Ao61 t561.length co61)) (fun _ hk => hk.2) (.int .i64 t564)) (fun _ hk => trivial)⟩
              have n1_ : Aside0 (Kd.S k51 51 ((w60.setCell ⟨gb566, 0, none⟩ (.slice Ao61 t561.length co61)).setCell ⟨gb566, 1, none⟩ (.int .i64 t564)) w.heap.size (fun k_ => some k_ ≠ (.slice Ao61 t561.length co61 : Value).ownBlock) (.slice Ao58 x550000_1.length co58) x550000_1) := ⟨by (with_reducible repeat (first | apply Kd.S_alloc | apply Kd.S_drewN | apply Kd.S_drew)); exact Kd.S_mono (Kd.S_far (p := ⟨gb566, 1, none⟩) (Kd.S_far (p := ⟨gb566, 0, none⟩) (Kd.S_types HO_550000.out BK566.out (by decide)) (fun _ hk => hk.2) (.slice Ao61 t561.length co61)) (fun _ hk => hk.2) (.int .i64 t564)) (fun _ hk => hk.1.2)⟩
              have n2_ : Aside0 (Kd.S k51 51 ((w60.setCell ⟨gb566, 0, none⟩ (.slice Ao61 t561.length co61)).setCell ⟨gb566, 1, none⟩ (.int .i64 t564)) w.heap.size (fun k_ => some k_ ≠ (.slice Ao58 x550000_1.length co58 : Value).ownBlock) (.slice Ao61 t561.length co61) t561) := ⟨by (with_reducible repeat (first | apply Kd.S_alloc | apply Kd.S_drewN | apply Kd.S_drew)); exact Kd.S_mono (Kd.S_far (p := ⟨gb566, 1, none⟩) (Kd.S_far (p := ⟨gb566, 0, none⟩) (Kd.S_types HO563.out BK566.out (by decide)) (fun _ hk => hk.2) (.slice Ao61 t561.length co61)) (fun _ hk => hk.2) (.int .i64 t564)) (fun _ hk => hk.1.2)⟩
              have n3_ : Aside0 (((w60.setCell ⟨gb566, 0, none⟩ (.slice Ao61 t561.length co61)).setCell ⟨gb566, 1, none⟩ (.int .i64 t564)).heap[gb549]? = some (.cells #[.slice Ao58 x550000_1.length co58, .int .i64 x550001_1] 26 (0, 0))) := ⟨oF BK549⟩
              have n4_ : Aside0 (((w60.setCell ⟨gb566, 0, none⟩ (.slice Ao61 t561.length co61)).setCell ⟨gb566, 1, none⟩ (.int .i64 t564)).heap[gb566]? = some (.cells #[.slice Ao61 t561.length co61, .int .i64 t564] 26 (0, 0))) := ⟨oP BK566⟩
              have n5_ : Aside0 (Below w.heap.size w ((w60.setCell ⟨gb566, 0, none⟩ (.slice Ao61 t561.length co61)).setCell ⟨gb566, 1, none⟩ (.int .i64 t564))) := ⟨oB⟩
              (try clear HO_5)
              (try clear HO_550000)
              (try clear HO563)
              (try clear BK549)
              (try clear BK566)
              (try clear HB)
              generalize ((w60.setCell ⟨gb566, 0, none⟩ (.slice Ao61 t561.length co61)).setCell ⟨gb566, 1, none⟩ (.int .i64 t564)) = w64 at n0_ n1_ n2_ n3_ n4_ n5_ ⊢
              have HO_5 := n0_
              have HO_550000 := n1_
              have HO563 := n2_
              have BK549 := n3_
              have BK566 := n4_
              have HB := n5_
              clear n0_ n1_ n2_ n3_ n4_ n5_
              replace HO_5 := Aside0.mk (Kd.R_drew HO_5.out)
              replace HO_550000 := Aside0.mk (Kd.S_drew HO_550000.out)
              replace HO563 := Aside0.mk (Kd.S_drew HO563.out)
              replace BK549 := Aside0.mk (blk_drew BK549.out)
              replace BK566 := Aside0.mk (blk_drew BK566.out)
              replace HB := Aside0.mk (below_drew1 HB.out)
              have p568 : (0 ≤ ((ji41) : Int)) = True := oT
              have q568 : ((ji41) < (y550.length : Int)) = True := oT
              obtain ⟨Af568, cf568, ef568⟩ := Kd.R_slice HO_5.out
              subst ef568
              obtain ⟨ad568, e568, hx568_0⟩ := Kd.at_string (Kd.R_reads' HO_5.out).2.2 (ji41) oa oa
              cases e568
              refine st_ 14 (fun w' => w'.cell? ⟨gb549, 0, none⟩ = some (.slice Ao58 x550000_1.length co58) ∧ w'.cell? ⟨gb549, 1, none⟩ = some (.int .i64 x550001_1) ∧ w'.cell? (ad568.add ((ji41)).toNat) = some (.string (rdOf ByteArray.empty y550 (ji41)))) laws_FnFullAttrs.tab13 laws_FnFullAttrs.bits13 ⟨(blk_cell BK549.out 0).trans rfl, (blk_cell BK549.out 1).trans rfl, hx568_0⟩ (fun hHeld HT_ HW_ => ?_)
              generalize w64.drew = w65 at HO_5 HO_550000 HO563 BK549 BK566 HB hx568_0 hHeld ⊢
              refine pu_ 1 50 HT_ ?_
              refine pu_ 2 51 HT_ ?_
              refine ta_ 0 49 HT_ HW_ hHeld ?_
              refine join_ (σ := Value × Nat) 2 (lb 14 4095) (fun s_ => [(52, .int .i64 t567), (56, .tuple #[.agg #[s_.1, .int .i64 t572], .int .i64 t573]), (11, .pointer (some ⟨s_.2, 0, none⟩)), (53, .int .i64 ji41), (54, .pointer (some (ad568.add ((ji41)).toNat))), (55, .string (rdOf ByteArray.empty y550 (ji41))), (48, .tuple #[.agg #[s_.1, .int .i64 t572], .int .i64 t573]), (57, .agg #[s_.1, .int .i64 t572]), (58, .int .i64 t573)]) (fun s_ w' => (w'.cell? ⟨gb549, 0, none⟩ = some (.slice Ao58 x550000_1.length co58) ∧ w'.cell? ⟨gb549, 1, none⟩ = some (.int .i64 x550001_1) ∧ w'.cell? (ad568.add ((ji41)).toNat) = some (.string (rdOf ByteArray.empty y550 (ji41)))) ∧ (Kd.S k51 51 w' w.heap.size (fun k_ => some k_ ≠ (s_.1 : Value).ownBlock ∧ some k_ ≠ (.slice Ao58 x550000_1.length co58 : Value).ownBlock) (.slice Ao61 t561.length co61) t561) ∧ (Kd.S k51 51 w' w.heap.size (fun k_ => some k_ ≠ (.slice Ao61 t561.length co61 : Value).ownBlock ∧ some k_ ≠ (.slice Ao58 x550000_1.length co58 : Value).ownBlock) s_.1 t569) ∧ (Kd.R Kd.string 9 w' w.heap.size (fun _ => True) (.slice (some ad568) y550.length cf568) y550) ∧ (Kd.S k51 51 w' w.heap.size (fun k_ => some k_ ≠ (.slice Ao61 t561.length co61 : Value).ownBlock ∧ some k_ ≠ (s_.1 : Value).ownBlock) (.slice Ao58 x550000_1.length co58) x550000_1) ∧ (w'.heap[gb549]? = some (.cells #[.slice Ao58 x550000_1.length co58, .int .i64 x550001_1] 26 (0, 0))) ∧ (w'.heap[gb566]? = some (.cells #[.slice Ao61 t561.length co61, .int .i64 t564] 26 (0, 0))) ∧ (w'.heap[s_.2]? = some (.cells #[.slice none 0 0, .int .i64 0] 26 (0, 0))) ∧ (w.heap.size ≤ s_.2) ∧ (w.heap.size ≤ s_.2) ∧ (gb549 ≠ s_.2) ∧ (s_.2 ≠ gb549) ∧ (gb566 ≠ s_.2) ∧ (s_.2 ≠ gb566) ∧ (Below w.heap.size w w')) ?_ ?_
              rotate_left
              ·intro hCont
               refine two_ (i := 3) (j := 11) (Ni := some 52) (Nj := some 11) (lb 14 15) (lb 14 2055) rfl rfl rfl rfl (two_of HT_.out (by kernel_rfl)) (by decide) (by decide) (fun K hK => ?_) (fun K hK => ?_)
               ·skip
                refine gr_ 52 Tryz.func20 (laws_at.calls _ _ l0 5 t567 _ (kC HR0) HC0.out A40.out) ?_
                rintro e w' ⟨rfl, ⟨nd, rfl⟩⟩
                refine ⟨_, rfl, ?_⟩
                refine hk_ hK 52 ⟨(blk_cell BK549.out 0).trans rfl, (blk_cell BK549.out 1).trans rfl, hHeld.2.2⟩ (fun hHeld => ?_)
                clear hK K
                refine pu_ 4 53 HT_ ?_
                refine pu_ 5 54 HT_ ?_
                refine ta_ 6 55 HT_ HW_ hHeld ?_
                refine two_ (i := 7) (j := 11) (Ni := some 56) (Nj := some 11) (lb 14 255) (lb 14 2175) rfl rfl rfl rfl (two_of HT_.out (by kernel_rfl)) (by decide) (by decide) (fun K hK => ?_) (fun K hK => ?_)
                ·skip
                 refine goes_ Tryz.func25 (by kernel_rfl) rfl #[.agg #[.slice Ao58 x550000_1.length co58, .int .i64 x550001_1], .string (⟨#[47, 100, 105, 114]⟩ : ByteArray), .string (rdOf ByteArray.empty y550 (ji41)), .string (⟨#[119]⟩ : ByteArray)] (by rfl) rfl rfl (by (try simp only [List.map_toArray, List.map_cons, List.map_nil]); first | done | (simp only [hji41]; rfl) | rfl | (simp only [List.length_drop, List.length_take]; rfl)) ?_
                 with_reducible refine (impl_SetAttr.calls k1 _ _ x550000_1 x550001_1 (⟨#[47, 100, 105, 114]⟩ : ByteArray) (rdOf ByteArray.empty y550 (ji41)) (⟨#[119]⟩ : ByteArray) t569 t572 t573 _ (rcS0 HO_550000) (rnS HO_550000) A44.out).mono ?_
                 rintro e w66 ⟨v570, rfl, ho0, hb⟩
                 have HS2_ := (hb.cell (World.block_lt_of_cell? _ _ (hHeld.2.2))).trans (hHeld.2.2)
                 refine ⟨_, rfl, ?_⟩
                 have HO571 := Aside0.mk (Kd.S_lower (Kd.S_new' (Kd.S_new' ho0 (ltS0 HO_550000)) (ltS0 HO563)) (below_size oB))
                 replace HO_5 := kr_ HO_5 hb
                 replace HO_550000 := elS0 HO_550000 (Kd.S_base ho0) hb
                 replace HO563 := elS0 HO563 (Kd.S_base ho0) hb
                 replace BK549 := kb_ BK549 hb
                 replace BK566 := kb_ BK566 hb
                 replace HB := Aside0.mk (below_step oB hb)
                 refine hk_ hK 56 ⟨(blk_cell BK549.out 0).trans rfl, (blk_cell BK549.out 1).trans rfl, HS2_⟩ (fun hHeld => ?_)
                 clear hK K
                 refine pu_ 8 48 HT_ ?_
                 refine pu_ 9 57 HT_ ?_
                 refine pu_ 10 58 HT_ ?_
                 refine on_ 11 11 HT_ (fun K hK => ?_)
                 refine box_step ?hg (N := 11) ?hd (cs := #[.slice none 0 0, .int .i64 0]) (t := 26) ?hr ?_; (case hd => rfl); (case hg => rfl); (case hr => first | (go_simp; done) | (go_simp; rfl))
                 intro gb574 hg w67 hbox hb
                 have HS2_ := (hb.cell (World.block_lt_of_cell? _ _ (hHeld.2.2))).trans (hHeld.2.2)
                 have BK574 := Aside0.mk (hbox)
                 have GW574 := gs_ hg
                 have GE574 := gs_ hg
                 have NB549_574 := nl_ hg BK549
                 have NB574_549 := nr_ hg BK549
                 have NB566_574 := nl_ hg BK566
                 have NB574_566 := nr_ hg BK566
                 replace HO_5 := kr_ HO_5 hb
                 replace HO_550000 := beS0 HO_550000 hb
                 replace HO563 := beS0 HO563 hb
                 replace HO571 := beS0 HO571 hb
                 replace BK549 := kb_ BK549 hb
                 replace BK566 := kb_ BK566 hb
                 replace HB := Aside0.mk (below_step oB hb)
                 clear hb hbox hg
                 refine hk_ hK 11 ⟨(blk_cell BK549.out 0).trans rfl, (blk_cell BK549.out 1).trans rfl, HS2_⟩ (fun hHeld => ?_)
                 clear hK K
                 exact norm_ (by simp only [putAll, Act.put, List.setIfInBounds_toArray, List.set_cons_zero, List.set_cons_succ]) (hCont (v570, gb574) _ ⟨hHeld, (by (with_reducible repeat (first | apply Kd.S_alloc | apply Kd.S_drewN | apply Kd.S_drew)); exact Kd.S_mono HO563.out (fun _ hk => ⟨hk.2, hk.1⟩)), (by (with_reducible repeat (first | apply Kd.S_alloc | apply Kd.S_drewN | apply Kd.S_drew)); exact Kd.S_mono HO571.out (fun _ hk => ⟨hk.2, hk.1.2⟩)), (oR HO_5), (nS0 HO_550000), (oF BK549), (oF BK566), (oF BK574), GW574.out, GE574.out, NB549_574.out, NB574_549.out, NB566_574.out, NB574_566.out, oB⟩)
                ·skip
                 refine box_step ?hg (N := 11) ?hd (cs := #[.slice none 0 0, .int .i64 0]) (t := 26) ?hr ?_; (case hd => rfl); (case hg => rfl); (case hr => first | (go_simp; done) | (go_simp; rfl))
                 intro gb574 hg w66 hbox hb
                 have HS2_ := (hb.cell (World.block_lt_of_cell? _ _ (hHeld.2.2))).trans (hHeld.2.2)
                 have BK574 := Aside0.mk (hbox)
                 have GW574 := gs_ hg
                 have GE574 := gs_ hg
                 have NB549_574 := nl_ hg BK549
                 have NB574_549 := nr_ hg BK549
                 have NB566_574 := nl_ hg BK566
                 have NB574_566 := nr_ hg BK566
                 replace HO_5 := kr_ HO_5 hb
                 replace HO_550000 := beS0 HO_550000 hb
                 replace HO563 := beS0 HO563 hb
                 replace BK549 := kb_ BK549 hb
                 replace BK566 := kb_ BK566 hb
                 replace HB := Aside0.mk (below_step oB hb)
                 clear hb hbox hg
                 refine hk_ hK 11 ⟨(blk_cell BK549.out 0).trans rfl, (blk_cell BK549.out 1).trans rfl, HS2_⟩ (fun hHeld => ?_)
                 clear hK K
                 refine on_ 7 56 HT_ (fun K hK => ?_)
                 refine goes_ Tryz.func25 (by kernel_rfl) rfl #[.agg #[.slice Ao58 x550000_1.length co58, .int .i64 x550001_1], .string (⟨#[47, 100, 105, 114]⟩ : ByteArray), .string (rdOf ByteArray.empty y550 (ji41)), .string (⟨#[119]⟩ : ByteArray)] (by rfl) rfl rfl (by (try simp only [List.map_toArray, List.map_cons, List.map_nil]); first | done | (simp only [hji41]; rfl) | rfl | (simp only [List.length_drop, List.length_take]; rfl)) ?_
                 with_reducible refine (impl_SetAttr.calls k1 _ _ x550000_1 x550001_1 (⟨#[47, 100, 105, 114]⟩ : ByteArray) (rdOf ByteArray.empty y550 (ji41)) (⟨#[119]⟩ : ByteArray) t569 t572 t573 _ (rcS0 HO_550000) (rnS HO_550000) A44.out).mono ?_
                 rintro e w67 ⟨v570, rfl, ho0, hb⟩
                 have HS2_ := (hb.cell (World.block_lt_of_cell? _ _ (hHeld.2.2))).trans (hHeld.2.2)
                 refine ⟨_, rfl, ?_⟩
                 have HO571 := Aside0.mk (Kd.S_lower (Kd.S_new' (Kd.S_new' ho0 (ltS0 HO_550000)) (ltS0 HO563)) (below_size oB))
                 replace HO_5 := kr_ HO_5 hb
                 replace HO_550000 := elS0 HO_550000 (Kd.S_base ho0) hb
                 replace HO563 := elS0 HO563 (Kd.S_base ho0) hb
                 replace BK549 := kb_ BK549 hb
                 replace BK566 := kb_ BK566 hb
                 replace BK574 := kb_ BK574 hb
                 replace HB := Aside0.mk (below_step oB hb)
                 refine hk_ hK 56 ⟨(blk_cell BK549.out 0).trans rfl, (blk_cell BK549.out 1).trans rfl, HS2_⟩ (fun hHeld => ?_)
                 clear hK K
                 refine pu_ 8 48 HT_ ?_
                 refine pu_ 9 57 HT_ ?_
                 refine pu_ 10 58 HT_ ?_
                 exact norm_ (by simp only [putAll, Act.put, List.setIfInBounds_toArray, List.set_cons_zero, List.set_cons_succ]) (hCont (v570, gb574) _ ⟨hHeld, (by (with_reducible repeat (first | apply Kd.S_alloc | apply Kd.S_drewN | apply Kd.S_drew)); exact Kd.S_mono HO563.out (fun _ hk => ⟨hk.2, hk.1⟩)), (by (with_reducible repeat (first | apply Kd.S_alloc | apply Kd.S_drewN | apply Kd.S_drew)); exact Kd.S_mono HO571.out (fun _ hk => ⟨hk.2, hk.1.2⟩)), (oR HO_5), (nS0 HO_550000), (oF BK549), (oF BK566), (oF BK574), GW574.out, GE574.out, NB549_574.out, NB574_549.out, NB566_574.out, NB574_566.out, oB⟩)
               ·skip
                refine box_step ?hg (N := 11) ?hd (cs := #[.slice none 0 0, .int .i64 0]) (t := 26) ?hr ?_; (case hd => rfl); (case hg => rfl); (case hr => first | (go_simp; done) | (go_simp; rfl))
                intro gb574 hg w66 hbox hb
                have HS2_ := (hb.cell (World.block_lt_of_cell? _ _ (hHeld.2.2))).trans (hHeld.2.2)
                have BK574 := Aside0.mk (hbox)
                have GW574 := gs_ hg
                have GE574 := gs_ hg
                have NB549_574 := nl_ hg BK549
                have NB574_549 := nr_ hg BK549
                have NB566_574 := nl_ hg BK566
                have NB574_566 := nr_ hg BK566
                replace HO_5 := kr_ HO_5 hb
                replace HO_550000 := beS0 HO_550000 hb
                replace HO563 := beS0 HO563 hb
                replace BK549 := kb_ BK549 hb
                replace BK566 := kb_ BK566 hb
                replace HB := Aside0.mk (below_step oB hb)
                clear hb hbox hg
                refine hk_ hK 11 ⟨(blk_cell BK549.out 0).trans rfl, (blk_cell BK549.out 1).trans rfl, HS2_⟩ (fun hHeld => ?_)
                clear hK K
                refine on_ 3 52 HT_ (fun K hK => ?_)
                refine gr_ 52 Tryz.func20 (laws_at.calls _ _ l0 5 t567 _ (kC HR0) HC0.out A40.out) ?_
                rintro e w' ⟨rfl, ⟨nd, rfl⟩⟩
                refine ⟨_, rfl, ?_⟩
                refine hk_ hK 52 ⟨(blk_cell BK549.out 0).trans rfl, (blk_cell BK549.out 1).trans rfl, hHeld.2.2⟩ (fun hHeld => ?_)
                clear hK K
                refine pu_ 4 53 HT_ ?_
                refine pu_ 5 54 HT_ ?_
                refine ta_ 6 55 HT_ HW_ hHeld ?_
                refine on_ 7 56 HT_ (fun K hK => ?_)
                refine goes_ Tryz.func25 (by kernel_rfl) rfl #[.agg #[.slice Ao58 x550000_1.length co58, .int .i64 x550001_1], .string (⟨#[47, 100, 105, 114]⟩ : ByteArray), .string (rdOf ByteArray.empty y550 (ji41)), .string (⟨#[119]⟩ : ByteArray)] (by rfl) rfl rfl (by (try simp only [List.map_toArray, List.map_cons, List.map_nil]); first | done | (simp only [hji41]; rfl) | rfl | (simp only [List.length_drop, List.length_take]; rfl)) ?_
                with_reducible refine (impl_SetAttr.calls k1 _ _ x550000_1 x550001_1 (⟨#[47, 100, 105, 114]⟩ : ByteArray) (rdOf ByteArray.empty y550 (ji41)) (⟨#[119]⟩ : ByteArray) t569 t572 t573 _ (rcS0 HO_550000) (rnS HO_550000) A44.out).mono ?_
                rintro e w67 ⟨v570, rfl, ho0, hb⟩
                have HS2_ := (hb.cell (World.block_lt_of_cell? _ _ (hHeld.2.2))).trans (hHeld.2.2)
                refine ⟨_, rfl, ?_⟩
                have HO571 := Aside0.mk (Kd.S_lower (Kd.S_new' (Kd.S_new' ho0 (ltS0 HO_550000)) (ltS0 HO563)) (below_size oB))
                replace HO_5 := kr_ HO_5 hb
                replace HO_550000 := elS0 HO_550000 (Kd.S_base ho0) hb
                replace HO563 := elS0 HO563 (Kd.S_base ho0) hb
                replace BK549 := kb_ BK549 hb
                replace BK566 := kb_ BK566 hb
                replace BK574 := kb_ BK574 hb
                replace HB := Aside0.mk (below_step oB hb)
                refine hk_ hK 56 ⟨(blk_cell BK549.out 0).trans rfl, (blk_cell BK549.out 1).trans rfl, HS2_⟩ (fun hHeld => ?_)
                clear hK K
                refine pu_ 8 48 HT_ ?_
                refine pu_ 9 57 HT_ ?_
                refine pu_ 10 58 HT_ ?_
                exact norm_ (by simp only [putAll, Act.put, List.setIfInBounds_toArray, List.set_cons_zero, List.set_cons_succ]) (hCont (v570, gb574) _ ⟨hHeld, (by (with_reducible repeat (first | apply Kd.S_alloc | apply Kd.S_drewN | apply Kd.S_drew)); exact Kd.S_mono HO563.out (fun _ hk => ⟨hk.2, hk.1⟩)), (by (with_reducible repeat (first | apply Kd.S_alloc | apply Kd.S_drewN | apply Kd.S_drew)); exact Kd.S_mono HO571.out (fun _ hk => ⟨hk.2, hk.1.2⟩)), (oR HO_5), (nS0 HO_550000), (oF BK549), (oF BK566), (oF BK574), GW574.out, GE574.out, NB549_574.out, NB574_549.out, NB566_574.out, NB574_566.out, oB⟩)
              rintro ⟨v570, gb574⟩ w68 ⟨hS_, h0_, h1_, h2_, h3_, h4_, h5_, h6_, h7_, h8_, h9_, h10_, h11_, h12_, h13_⟩
              have n0_ : Aside0 (Kd.S k51 51 w68 w.heap.size (fun k_ => some k_ ≠ (v570 : Value).ownBlock ∧ some k_ ≠ (.slice Ao58 x550000_1.length co58 : Value).ownBlock) (.slice Ao61 t561.length co61) t561) := ⟨h0_⟩
              have n1_ : Aside0 (Kd.S k51 51 w68 w.heap.size (fun k_ => some k_ ≠ (.slice Ao61 t561.length co61 : Value).ownBlock ∧ some k_ ≠ (.slice Ao58 x550000_1.length co58 : Value).ownBlock) v570 t569) := ⟨h1_⟩
              have n2_ : Aside0 (Kd.R Kd.string 9 w68 w.heap.size (fun _ => True) (.slice (some ad568) y550.length cf568) y550) := ⟨h2_⟩
              have n3_ : Aside0 (Kd.S k51 51 w68 w.heap.size (fun k_ => some k_ ≠ (.slice Ao61 t561.length co61 : Value).ownBlock ∧ some k_ ≠ (v570 : Value).ownBlock) (.slice Ao58 x550000_1.length co58) x550000_1) := ⟨h3_⟩
              have n4_ : Aside0 (w68.heap[gb549]? = some (.cells #[.slice Ao58 x550000_1.length co58, .int .i64 x550001_1] 26 (0, 0))) := ⟨h4_⟩
              have n5_ : Aside0 (w68.heap[gb566]? = some (.cells #[.slice Ao61 t561.length co61, .int .i64 t564] 26 (0, 0))) := ⟨h5_⟩
              have n6_ : Aside0 (w68.heap[gb574]? = some (.cells #[.slice none 0 0, .int .i64 0] 26 (0, 0))) := ⟨h6_⟩
              have n7_ : Aside0 (w.heap.size ≤ gb574) := ⟨h7_⟩
              have n8_ : Aside0 (w.heap.size ≤ gb574) := ⟨h8_⟩
              have n9_ : Aside0 (gb549 ≠ gb574) := ⟨h9_⟩
              have n10_ : Aside0 (gb574 ≠ gb549) := ⟨h10_⟩
              have n11_ : Aside0 (gb566 ≠ gb574) := ⟨h11_⟩
              have n12_ : Aside0 (gb574 ≠ gb566) := ⟨h12_⟩
              have n13_ : Aside0 (Below w.heap.size w w68) := ⟨h13_⟩
              clear HO_5
              clear HO_550000
              clear HO563
              clear BK549
              clear BK566
              clear HB
              clear h0_ h1_ h2_ h3_ h4_ h5_ h6_ h7_ h8_ h9_ h10_ h11_ h12_ h13_
              have HO563 := n0_
              have HO571 := n1_
              have HO_5 := n2_
              have HO_550000 := n3_
              have BK549 := n4_
              have BK566 := n5_
              have BK574 := n6_
              have GW574 := n7_
              have GE574 := n8_
              have NB549_574 := n9_
              have NB574_549 := n10_
              have NB566_574 := n11_
              have NB574_566 := n12_
              have HB := n13_
              clear n0_ n1_ n2_ n3_ n4_ n5_ n6_ n7_ n8_ n9_ n10_ n11_ n12_ n13_
              have hHeld : w68.cell? ⟨gb549, 0, none⟩ = some (.slice Ao58 x550000_1.length co58) ∧ w68.cell? ⟨gb549, 1, none⟩ = some (.int .i64 x550001_1) ∧ w68.cell? (ad568.add ((ji41)).toNat) = some (.string (rdOf ByteArray.empty y550 (ji41))) := hS_
              obtain ⟨Ao70, co70, eo70⟩ := Kd.S_slice HO571.out
              (first | subst eo70 | (injection eo70 with f1_ f2_ f3_; have f4_ := f1_.symm; have f5_ := f3_.symm; clear f1_ f2_ f3_; subst f4_; subst f5_))
              refine norm_ (a' := ?_) ?_ ?_
              rotate_left
              ·simp only [putAll, Act.put, List.setIfInBounds_toArray, List.set_cons_zero, List.set_cons_succ]
               rfl
              refine one_ (i := 12) (N := none) (lb 14 8191) rfl rfl (one_of HT_.out (by kernel_rfl)) (by decide) (fun K hK => ?_)
              have hs71 : w68.cell? ⟨gb574, 0, none⟩ = some (.slice none 0 0) := (blk_cell BK574.out 0).trans rfl
              have hfs71 := blk_frozen BK574.out 0
              have hns71_0 := NB549_574.out
              have hns71_1 := NB566_574.out
              have hms71_0 := NB574_549.out
              have hms71_1 := NB574_566.out
              have hs72 : w68.cell? ⟨gb574, 1, none⟩ = some (.int .i64 0) := (blk_cell BK574.out 1).trans rfl
              have hfs72 := blk_frozen BK574.out 1
              have hns72_0 := NB549_574.out
              have hns72_1 := NB566_574.out
              have hms72_0 := NB574_549.out
              have hms72_1 := NB574_566.out
              refine skip_ (w1 := ?_) (by rfl) rfl ?_ ?_
              rotate_left
              ·go_simp
               rfl
              refine hK.out _ _ ⟨((cell_far (p := ⟨gb574, _, none⟩) NB549_574.out _).trans (((cell_far (p := ⟨gb574, _, none⟩) NB549_574.out _).trans (hHeld.1)))), ((cell_far (p := ⟨gb574, _, none⟩) NB549_574.out _).trans (((cell_far (p := ⟨gb574, _, none⟩) NB549_574.out _).trans (hHeld.2.1)))), ((cell_far (p := ⟨gb574, _, none⟩) (by first | exact Kd.own_blk (Kd.R_ne HO_5.out BK574.out (by decide)) | (rw [add_block]; exact Kd.own_blk (Kd.R_ne HO_5.out BK574.out (by decide))) | (show (Addr.add _ _).block ≠ _; rw [add_block]; exact Kd.own_blk (Kd.R_ne HO_5.out BK574.out (by decide))) | (dsimp only; exact Kd.own_blk (Kd.R_ne HO_5.out BK574.out (by decide)))) _).trans (((cell_far (p := ⟨gb574, _, none⟩) (by first | exact Kd.own_blk (Kd.R_ne HO_5.out BK574.out (by decide)) | (rw [add_block]; exact Kd.own_blk (Kd.R_ne HO_5.out BK574.out (by decide))) | (show (Addr.add _ _).block ≠ _; rw [add_block]; exact Kd.own_blk (Kd.R_ne HO_5.out BK574.out (by decide))) | (dsimp only; exact Kd.own_blk (Kd.R_ne HO_5.out BK574.out (by decide)))) _).trans (hHeld.2.2))))⟩ (fun hHeld => ?_)
              clear hK K
              refine pu_ 13 12 HT_ ?_
              refine dn_ HT_ ?_
              try go_wp2
              have n0_ : Aside0 (Kd.R Kd.string 9 ((w68.setCell ⟨gb574, 0, none⟩ (.slice Ao70 t569.length co70)).setCell ⟨gb574, 1, none⟩ (.int .i64 t572)) w.heap.size (fun _ => True) (.slice (some ad568) y550.length cf568) y550) := ⟨by (with_reducible repeat (first | apply Kd.R_alloc | apply Kd.R_drewN | apply Kd.R_drew)); exact Kd.R_mono (Kd.R_far (p := ⟨gb574, 1, none⟩) (Kd.R_far (p := ⟨gb574, 0, none⟩) (Kd.R_types HO_5.out BK574.out (by decide)) (fun _ hk => hk.2) (.slice Ao70 t569.length co70)) (fun _ hk => hk.2) (.int .i64 t572)) (fun _ hk => trivial)⟩
              have n1_ : Aside0 (Kd.S k51 51 ((w68.setCell ⟨gb574, 0, none⟩ (.slice Ao70 t569.length co70)).setCell ⟨gb574, 1, none⟩ (.int .i64 t572)) w.heap.size (fun k_ => some k_ ≠ (.slice Ao61 t561.length co61 : Value).ownBlock ∧ some k_ ≠ (.slice Ao70 t569.length co70 : Value).ownBlock) (.slice Ao58 x550000_1.length co58) x550000_1) := ⟨by (with_reducible repeat (first | apply Kd.S_alloc | apply Kd.S_drewN | apply Kd.S_drew)); exact Kd.S_mono (Kd.S_far (p := ⟨gb574, 1, none⟩) (Kd.S_far (p := ⟨gb574, 0, none⟩) (Kd.S_types HO_550000.out BK574.out (by decide)) (fun _ hk => hk.2) (.slice Ao70 t569.length co70)) (fun _ hk => hk.2) (.int .i64 t572)) (fun _ hk => ⟨hk.1.1, hk.1.2⟩)⟩
              have n2_ : Aside0 (Kd.S k51 51 ((w68.setCell ⟨gb574, 0, none⟩ (.slice Ao70 t569.length co70)).setCell ⟨gb574, 1, none⟩ (.int .i64 t572)) w.heap.size (fun k_ => some k_ ≠ (.slice Ao58 x550000_1.length co58 : Value).ownBlock ∧ some k_ ≠ (.slice Ao70 t569.length co70 : Value).ownBlock) (.slice Ao61 t561.length co61) t561) := ⟨by (with_reducible repeat (first | apply Kd.S_alloc | apply Kd.S_drewN | apply Kd.S_drew)); exact Kd.S_mono (Kd.S_far (p := ⟨gb574, 1, none⟩) (Kd.S_far (p := ⟨gb574, 0, none⟩) (Kd.S_types HO563.out BK574.out (by decide)) (fun _ hk => hk.2) (.slice Ao70 t569.length co70)) (fun _ hk => hk.2) (.int .i64 t572)) (fun _ hk => ⟨hk.1.2, hk.1.1⟩)⟩
              have n3_ : Aside0 (Kd.S k51 51 ((w68.setCell ⟨gb574, 0, none⟩ (.slice Ao70 t569.length co70)).setCell ⟨gb574, 1, none⟩ (.int .i64 t572)) w.heap.size (fun k_ => some k_ ≠ (.slice Ao58 x550000_1.length co58 : Value).ownBlock ∧ some k_ ≠ (.slice Ao61 t561.length co61 : Value).ownBlock) (.slice Ao70 t569.length co70) t569) := ⟨by (with_reducible repeat (first | apply Kd.S_alloc | apply Kd.S_drewN | apply Kd.S_drew)); exact Kd.S_mono (Kd.S_far (p := ⟨gb574, 1, none⟩) (Kd.S_far (p := ⟨gb574, 0, none⟩) (Kd.S_types HO571.out BK574.out (by decide)) (fun _ hk => hk.2) (.slice Ao70 t569.length co70)) (fun _ hk => hk.2) (.int .i64 t572)) (fun _ hk => ⟨hk.1.2, hk.1.1⟩)⟩
              have n4_ : Aside0 (((w68.setCell ⟨gb574, 0, none⟩ (.slice Ao70 t569.length co70)).setCell ⟨gb574, 1, none⟩ (.int .i64 t572)).heap[gb549]? = some (.cells #[.slice Ao58 x550000_1.length co58, .int .i64 x550001_1] 26 (0, 0))) := ⟨oF BK549⟩
              have n5_ : Aside0 (((w68.setCell ⟨gb574, 0, none⟩ (.slice Ao70 t569.length co70)).setCell ⟨gb574, 1, none⟩ (.int .i64 t572)).heap[gb566]? = some (.cells #[.slice Ao61 t561.length co61, .int .i64 t564] 26 (0, 0))) := ⟨oF BK566⟩
              have n6_ : Aside0 (((w68.setCell ⟨gb574, 0, none⟩ (.slice Ao70 t569.length co70)).setCell ⟨gb574, 1, none⟩ (.int .i64 t572)).heap[gb574]? = some (.cells #[.slice Ao70 t569.length co70, .int .i64 t572] 26 (0, 0))) := ⟨oP BK574⟩
              have n7_ : Aside0 (Below w.heap.size w ((w68.setCell ⟨gb574, 0, none⟩ (.slice Ao70 t569.length co70)).setCell ⟨gb574, 1, none⟩ (.int .i64 t572))) := ⟨oB⟩
              (try clear HO_5)
              (try clear HO_550000)
              (try clear HO563)
              (try clear HO571)
              (try clear BK549)
              (try clear BK566)
              (try clear BK574)
              (try clear HB)
              generalize ((w68.setCell ⟨gb574, 0, none⟩ (.slice Ao70 t569.length co70)).setCell ⟨gb574, 1, none⟩ (.int .i64 t572)) = w73 at n0_ n1_ n2_ n3_ n4_ n5_ n6_ n7_ ⊢
              have HO_5 := n0_
              have HO_550000 := n1_
              have HO563 := n2_
              have HO571 := n3_
              have BK549 := n4_
              have BK566 := n5_
              have BK574 := n6_
              have HB := n7_
              clear n0_ n1_ n2_ n3_ n4_ n5_ n6_ n7_
              replace HO_5 := Aside0.mk (Kd.R_drew HO_5.out)
              replace HO_550000 := Aside0.mk (Kd.S_drew HO_550000.out)
              replace HO563 := Aside0.mk (Kd.S_drew HO563.out)
              replace HO571 := Aside0.mk (Kd.S_drew HO571.out)
              replace BK549 := Aside0.mk (blk_drew BK549.out)
              replace BK566 := Aside0.mk (blk_drew BK566.out)
              replace BK574 := Aside0.mk (blk_drew BK574.out)
              replace HB := Aside0.mk (below_drew1 HB.out)
              have p576 : (0 ≤ ((ji46) : Int)) = True := oT
              have q576 : ((ji46) < (y550.length : Int)) = True := oT
              obtain ⟨ad576, e576, hx576_0⟩ := Kd.at_string (Kd.R_reads' HO_5.out).2.2 (ji46) oa oa
              obtain rfl : ad568 = ad576 := (by injection e576)
              refine st_ 13 (fun w' => w'.cell? ⟨gb574, 0, none⟩ = some (.slice Ao70 t569.length co70) ∧ w'.cell? ⟨gb574, 1, none⟩ = some (.int .i64 t572) ∧ w'.cell? (ad568.add ((ji46)).toNat) = some (.string (rdOf ByteArray.empty y550 (ji46)))) laws_FnFullAttrs.tab14 laws_FnFullAttrs.bits14 ⟨(blk_cell BK574.out 0).trans rfl, (blk_cell BK574.out 1).trans rfl, hx576_0⟩ (fun hHeld HT_ HW_ => ?_)
              generalize w73.drew = w74 at HO_5 HO_550000 HO563 HO571 BK549 BK566 BK574 HB hx576_0 hHeld ⊢
              refine pu_ 1 61 HT_ ?_
              refine pu_ 2 62 HT_ ?_
              refine ta_ 0 60 HT_ HW_ hHeld ?_
              refine on_ 3 63 HT_ (fun K hK => ?_)
              refine gr_ 63 Tryz.func20 (laws_at.calls _ _ l0 5 t575 _ (kC HR0) HC0.out A45.out) ?_
              rintro e w' ⟨rfl, ⟨nd, rfl⟩⟩
              refine ⟨_, rfl, ?_⟩
              refine hk_ hK 63 ⟨(blk_cell BK574.out 0).trans rfl, (blk_cell BK574.out 1).trans rfl, hHeld.2.2⟩ (fun hHeld => ?_)
              clear hK K
              refine pu_ 4 64 HT_ ?_
              refine pu_ 5 65 HT_ ?_
              refine ta_ 6 66 HT_ HW_ hHeld ?_
              refine on_ 7 67 HT_ (fun K hK => ?_)
              refine goes_ Tryz.func26 (by kernel_rfl) rfl #[.agg #[.slice Ao70 t569.length co70, .int .i64 t572], .string (⟨#[47, 100, 105, 114]⟩ : ByteArray), .string (rdOf ByteArray.empty y550 (ji46))] (by rfl) rfl rfl (by (try simp only [List.map_toArray, List.map_cons, List.map_nil]); first | done | (simp only [hji46]; rfl) | rfl | (simp only [List.length_drop, List.length_take]; rfl)) ?_
              with_reducible refine (impl_GetAttr.calls k1 _ _ t569 t572 (⟨#[47, 100, 105, 114]⟩ : ByteArray) (rdOf ByteArray.empty y550 (ji46)) t577 t578 _ (rcS0 HO571) (rnS HO571) A49.out).mono ?_
              rintro e w75 ⟨rfl, hb⟩
              have HS2_ := (hb.cell (World.block_lt_of_cell? _ _ (hHeld.2.2))).trans (hHeld.2.2)
              refine ⟨_, rfl, ?_⟩
              replace HO_5 := kr_ HO_5 hb
              replace HO_550000 := beS0 HO_550000 hb
              replace HO563 := beS0 HO563 hb
              replace HO571 := beS0 HO571 hb
              replace BK549 := kb_ BK549 hb
              replace BK566 := kb_ BK566 hb
              replace BK574 := kb_ BK574 hb
              replace HB := Aside0.mk (below_step oB hb)
              refine hk_ hK 67 ⟨(blk_cell BK574.out 0).trans rfl, (blk_cell BK574.out 1).trans rfl, HS2_⟩ (fun hHeld => ?_)
              clear hK K
              refine pu_ 8 59 HT_ ?_
              refine pu_ 9 68 HT_ ?_
              refine pu_ 10 69 HT_ ?_
              refine pu_ 11 13 HT_ ?_
              refine pu_ 12 14 HT_ ?_
              refine dn_ HT_ ?_
              try go_wp2
              replace HO_5 := Aside0.mk (Kd.R_drew HO_5.out)
              replace HO_550000 := Aside0.mk (Kd.S_drew HO_550000.out)
              replace HO563 := Aside0.mk (Kd.S_drew HO563.out)
              replace HO571 := Aside0.mk (Kd.S_drew HO571.out)
              replace BK549 := Aside0.mk (blk_drew BK549.out)
              replace BK566 := Aside0.mk (blk_drew BK566.out)
              replace BK574 := Aside0.mk (blk_drew BK574.out)
              replace HB := Aside0.mk (below_drew1 HB.out)
              refine st_ 25 (fun w' => w'.cell? ⟨gb574, 0, none⟩ = some (.slice Ao70 t569.length co70) ∧ w'.cell? ⟨gb574, 1, none⟩ = some (.int .i64 t572) ∧ w'.cell? ⟨gb549, 0, none⟩ = some (.slice Ao58 x550000_1.length co58) ∧ w'.cell? ⟨gb549, 1, none⟩ = some (.int .i64 x550001_1)) laws_FnFullAttrs.tab15 laws_FnFullAttrs.bits15 oH (fun hHeld HT_ HW_ => ?_)
              generalize w75.drew = w76 at HO_5 HO_550000 HO563 HO571 BK549 BK566 BK574 HB hHeld ⊢
              refine pu_ 0 70 HT_ ?_
              refine pu_ 1 71 HT_ ?_
              refine pu_ 2 72 HT_ ?_
              refine pu_ 3 73 HT_ ?_
              refine pu_ 4 74 HT_ ?_
              refine pu_ 5 75 HT_ ?_
              refine pu_ 6 76 HT_ ?_
              refine pu_ 7 77 HT_ ?_
              refine pu_ 8 78 HT_ ?_
              refine pu_ 9 79 HT_ ?_
              refine pu_ 10 80 HT_ ?_
              refine pu_ 11 81 HT_ ?_
              refine pu_ 12 82 HT_ ?_
              refine pu_ 13 83 HT_ ?_
              refine pu_ 14 84 HT_ ?_
              refine pu_ 15 85 HT_ ?_
              refine pu_ 16 86 HT_ ?_
              refine pu_ 17 87 HT_ ?_
              refine ta_ 18 88 HT_ HW_ hHeld ?_
              refine ta_ 20 90 HT_ HW_ hHeld ?_
              refine on_ 19 89 HT_ (fun K hK => ?_)
              refine gr_ 89 Tryz.func19 (impl_UsageOf.calls k1 _ _ t569 t572 t579 _ (rcS0 HO571) (rnS HO571) A55.out) ?_
              rintro e w77 ⟨rfl, hb⟩
              refine ⟨_, rfl, ?_⟩
              replace HO_5 := kr_ HO_5 hb
              replace HO_550000 := beS0 HO_550000 hb
              replace HO563 := beS0 HO563 hb
              replace HO571 := beS0 HO571 hb
              replace BK549 := kb_ BK549 hb
              replace BK566 := kb_ BK566 hb
              replace BK574 := kb_ BK574 hb
              replace HB := Aside0.mk (below_step oB hb)
              refine hk_ hK 89 oH (fun hHeld => ?_)
              clear hK K
              refine on_ 21 91 HT_ (fun K hK => ?_)
              refine gr_ 91 Tryz.func19 (impl_UsageOf.calls k1 _ _ x550000_1 x550001_1 t580 _ (rcS0 HO_550000) (rnS HO_550000) A56.out) ?_
              rintro e w78 ⟨rfl, hb⟩
              refine ⟨_, rfl, ?_⟩
              replace HO_5 := kr_ HO_5 hb
              replace HO_550000 := beS0 HO_550000 hb
              replace HO563 := beS0 HO563 hb
              replace HO571 := beS0 HO571 hb
              replace BK549 := kb_ BK549 hb
              replace BK566 := kb_ BK566 hb
              replace BK574 := kb_ BK574 hb
              replace HB := Aside0.mk (below_step oB hb)
              refine hk_ hK 91 oH (fun hHeld => ?_)
              clear hK K
              refine pu_ 22 92 HT_ ?_
              refine pu_ 23 93 HT_ ?_
              refine pu_ 24 2 HT_ ?_
              refine dn_ HT_ ?_
              try go_wp2
              go_ret
              exact ⟨by first | rfl | (simp [errW_none, errW_some] <;> rfl) | (simp only [← hji41, ← hji46]; first | rfl | (simp [errW_none, errW_some] <;> rfl)) | (simp [*, errW_none, errW_some] <;> rfl), oB⟩
             ·rw [if_neg c54] at H
              cases H
            ·rw [if_neg c53] at H
             cases H
           ·rw [if_neg c52] at H
            cases H
          ·rw [if_neg c51] at H
           cases H
         ·cases H
        ·cases H
       ·cases H
      ·cases H
     ·cases H

/-- THE ONE PURE STATEMENT of laws_FnFullAttrs: yours. -/
def laws_FnFullAttrs.Pure : Prop := ∀ (l0 : List Int), l0.length ≤ maxLen → l0.length * 1 ≤ 140737488351232 → (∀ x ∈ l0, (Lit.int .u8 x).wf = true) → ∃ k, laws_FnFullAttrs.f k l0 = some true
theorem laws_FnFullAttrs.walk (P : laws_FnFullAttrs.Pure) (a0 : Option Addr) (len0 cap0 : Nat) (z0 : List Int) (w : World) (w0 : (a0 = none ∧ len0 = 0 ∧ cap0 = 0 ∧ z0 = []) ∨ ∃ x, a0 = some x ∧ len0 ≤ cap0 ∧ cap0 ≤ maxLen ∧ z0.length = cap0 ∧ (∀ i, i < z0.length → w.cell? (x.add i) = some (.int .u8 (z0.getD i 0))) ∧ ∀ n ∈ z0, (Lit.int .u8 n).wf = true) (y0 : len0 * 1 ≤ 140737488351232) (hG : GOk w) :
  Calls Tryz.prog 6 #[.slice a0 len0 cap0] w fun e w' => e = .returned (.bool true) ∧ Below w.heap.size w w' := by
 obtain ⟨l0, rfl, hr0, hm0, hw0, hc0⟩ := ReadsInt.ofRowC w0
 obtain ⟨k, h⟩ := P l0 hm0 y0 hw0
 refine (laws_FnFullAttrs.calls k _ _ l0 true w (Kd.C_of_reads (d := (0 : Int)) (h1 := fun _ => rfl) hr0) hc0 h hG).mono ?_
 rintro e w' ⟨rfl, hd⟩
 exact ⟨rfl, hd⟩

end Go.Proofs.YtkcfmbggdkkfeaaGreatDoor.P
