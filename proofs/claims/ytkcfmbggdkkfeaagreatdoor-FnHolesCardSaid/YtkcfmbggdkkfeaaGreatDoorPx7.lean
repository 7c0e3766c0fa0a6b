-- By this session's own program (wip/myprint.py) out of the translation; Lean checks it.
import Derived.Test.YtkcfmbggdkkfeaaGreatDoorPx0
import Derived.Test.YtkcfmbggdkkfeaaGreatDoorPx1
import Derived.Test.YtkcfmbggdkkfeaaGreatDoorPx4
import Derived.Test.YtkcfmbggdkkfeaaGreatDoorPx5
import Derived.Test.YtkcfmbggdkkfeaaGreatDoorPx6
namespace Go.Proofs.YtkcfmbggdkkfeaaGreatDoor.P
open Go.RowKit Go.Proofs.YtkcfmbggdkkfeaaGreatDoorW.PrintWords Go.Proofs.YtkcfmbggdkkfeaaGreatDoorW.PrintLast Go.Proofs.YtkcfmbggdkkfeaaGreatDoorW.PrintMore
attribute [local go_sem] max2_int min2_int max_two min_two max_three min_three max_four min_four   -- for this text's walks alone
set_option linter.unusedVariables false
set_option linter.unusedSimpArgs false

/-! ### impl_ReadFile: function 23 -/
def impl_ReadFile.j0 : Nat → ByteArray → Int → Int → Bool → List (S51) → Int → Option (List Int × Int)
 | 0, _, _, _, _, _, _ => none
 | k + 1, x1, x2, x3, x18, x464000, x464001 => if x18 = true then (some (([] : List Int), 1)) else ((impl_Stat.f k x464000 x464001 x1).bind fun bt464 => (if bt464.2.2.2.2.2.2 = 0 then (if bt464.2.1 = 1 then (if 0 ≤ (mn x2 (bt464.2.2.2.1.length : Int)) then (if (mn x2 (bt464.2.2.2.1.length : Int)) ≤ (bt464.2.2.2.1.length : Int) then ((some (bt464.2.2.2.1.drop ((mn x2 (bt464.2.2.2.1.length : Int)) : Int).toNat : List Int)).bind fun y478 => (if 0 ≤ (mn x3 (y478.length : Int)) then (if (mn x3 (y478.length : Int)) ≤ (y478.length : Int) then ((slices_Clone_byte_byte.f (y478.take ((mn x3 (y478.length : Int)) : Int).toNat)).bind fun t486 => (some (t486, 0))) else (none)) else (none))) else (none)) else (none)) else (some (([] : List Int), 3))) else (some (([] : List Int), bt464.2.2.2.2.2.2))))
def impl_ReadFile.f (k : Nat) (l0_0 : List (S51)) (a0_1 : Int) (a1 : ByteArray) (a2 : Int) (a3 : Int) : Option (List Int × Int) := if a2 < 0 then (impl_ReadFile.j0 k a1 a2 a3 true l0_0 a0_1) else (impl_ReadFile.j0 k a1 a2 a3 (decide (a3 < 0)) l0_0 a0_1)
set_option maxHeartbeats 8000000 in
set_option maxRecDepth 100000 in
theorem impl_ReadFile.calls (k : Nat) (A0_0 : Option Addr) (c0_0 : Nat) (l0_0 : List (S51)) (a0_1 : Int) (a1 : ByteArray) (a2 : Int) (a3 : Int) (r1 : List Int) (r2 : Int) (w : World) (hr0_0 : Kd.C k51 w A0_0 l0_0.length l0_0) (hc0_0 : l0_0.length ≤ c0_0) (h : impl_ReadFile.f k l0_0 a0_1 a1 a2 a3 = some (r1, r2)) (hG : GOk w := by exact gk_ oB (by first | (with_reducible assumption) | assumption)) :
  Calls Tryz.prog 23 #[.agg #[.slice A0_0 l0_0.length c0_0, .int .i64 a0_1], .string a1, .int .i64 a2, .int .i64 a3] w fun e w' => ∃ v0_ : Value, e = .returned (.tuple #[v0_, .int .i64 r2]) ∧ Kd.R (Kd.int .u8) 5 w' w.heap.size (fun _ => True) v0_ r1 ∧ Below w.heap.size w w' := by
 have HG := Aside0.mk hG
 clear hG
 have hu26 := Tryz.underlying26
 have hu51 := Tryz.underlying51
 have HR0_0 := Aside0.mk hr0_0
 have HC0_0 := Aside0.mk hc0_0
 clear hr0_0 hc0_0
 have HB := Aside0.mk (Below.refl w.heap.size w)
 unfold impl_ReadFile.f at h
 have H := h
 clear h
 have HC5 := Aside0.mk H
 clear H
 go_enter Tryz.func23, Tryz.ntmps23
 go_upto_region 1 with (first | ((with_reducible refine gate_dst (N := 4) rfl ?_); refine bx_ 4 #[.slice A0_0 l0_0.length c0_0, .int .i64 a0_1] 26 ?_; intro gb463 hg w6 hbox hb; have BK463 := Aside0.mk (hbox); have GW463 := gs_ hg; replace HB := Aside0.mk (below_step oB hb); clear hb hbox hg))
 (try simp only [Act.put, List.setIfInBounds_toArray, List.set_cons_zero, List.set_cons_succ])
 go_cut [18] (fun v18 wc => ∃ (kq : Nat) (x18_4 : Bool), v18 = .bool x18_4 ∧ Aside0 (impl_ReadFile.j0 kq a1 a2 a3 x18_4 l0_0 a0_1 = some (r1, r2)) ∧ Aside0 (kq ≤ k) ∧ Aside0 (wc.heap[gb463]? = some (.cells #[(.slice A0_0 l0_0.length c0_0), .int .i64 a0_1] 26 (0, 0))) ∧ Aside0 (Below w.heap.size w wc))
 case first =>
  have H := HC5.out
  clear HC5
  replace H := itD H
  rcases H with ⟨c7b0, H⟩ | ⟨c7b0, H⟩
  ·(first | rw [c7b0] | rw [c7b2] | (simp only [i64_w, i32_w]; rw [c7b0]) | skip)
   have H' := Aside0.mk H
   clear H
   go_wp2
   go_meet
   case rel => exact ⟨_, (true), oS, H', ⟨by first | omega | exact Nat.le_refl _⟩, ⟨oF BK463⟩, ⟨oB⟩⟩
  ·(first | rw [c7b0] | rw [c7b2] | (simp only [i64_w, i32_w]; rw [c7b0]) | skip)
   have H' := Aside0.mk H
   clear H
   go_wp2
   go_meet
   case rel => exact ⟨_, (decide (a3 < 0)), oS, H', ⟨by first | omega | exact Nat.le_refl _⟩, ⟨oF BK463⟩, ⟨oB⟩⟩
 case rest =>
  clear HC5
  obtain ⟨kq, x18_4, rfl, HA, HJ4, BK463, HB⟩ := hcut
  cases kq with
  | zero => exact absurd HA.out (by simp [impl_ReadFile.j0])
  | succ kj4 =>
   have H := HA.out
   clear HA
   simp only [impl_ReadFile.j0] at H
   replace H := itB H
   rcases H with ⟨rfl, H⟩ | ⟨rfl, H⟩
   ·simp only [Option.some.injEq, Prod.mk.injEq] at H
    obtain ⟨rfl, rfl⟩ := H
    go_wp2
    go_ret2
    exact ⟨_, oE, by first | exact Kd.R_nil _ _ _ _ _ | exact Kd.N_nil _ _ _ _ _ | exact Kd.V_nil _ _ _ _ _ | exact Kd.Q_nil _ _ _ _ _ | exact Kd.S_nil _ _ _ _ _, oB⟩
   ·replace H := bA H
    obtain ⟨⟨t464, t465, t466, t467, t470, t473, t476⟩, A9, H⟩ := H
    try dsimp only at H
    by_cases c10 : t476 = 0
    ·rw [if_pos c10] at H
     have c10b0 : (t476 == 0) = true := beq_iff_eq.mpr c10
     have c10b1 : (t476 != 0) = false := bne_eq_false_iff_eq.mpr c10
     clear c10
     by_cases c11 : t465 = 1
     ·rw [if_pos c11] at H
      have c11b0 : (t465 == 1) = true := beq_iff_eq.mpr c11
      have c11b1 : (t465 != 1) = false := bne_eq_false_iff_eq.mpr c11
      clear c11
      obtain ⟨ji12, hji12⟩ : ∃ j_ : Int, (mn a2 (t467.length : Int)) = j_ := ⟨_, rfl⟩
      replace H : (if 0 ≤ (ji12) then (if (ji12) ≤ (t467.length : Int) then ((some (t467.drop ((ji12) : Int).toNat : List Int)).bind fun y478 => (if 0 ≤ (mn a3 (y478.length : Int)) then (if (mn a3 (y478.length : Int)) ≤ (y478.length : Int) then ((slices_Clone_byte_byte.f (y478.take ((mn a3 (y478.length : Int)) : Int).toNat)).bind fun t486 => (some (t486, 0))) else (none)) else (none))) else (none)) else (none)) = some (r1, r2) := by first | (rw [hji12] at H; exact H) | (simp only [hji12] at H ⊢; exact H)
      (try rw [hji12] at A9)
      have hji12_ : (if (t467.length : Int) < a2 then (t467.length : Int) else a2) = ji12 := hji12
      by_cases c13 : 0 ≤ (ji12)
      ·rw [if_pos c13] at H
       have c13b0 := eq_true c13
       have c13b1 : decide (0 ≤ (ji12)) = true := decide_eq_true c13
       clear c13
       by_cases c14 : (ji12) ≤ (t467.length : Int)
       ·rw [if_pos c14] at H
        have c14b0 := eq_true c14
        have c14b1 : decide ((ji12) ≤ (t467.length : Int)) = true := decide_eq_true c14
        clear c14
        obtain ⟨y478, hy478⟩ : ∃ y_ : List Int, y_ = (t467.drop ((ji12) : Int).toNat) := ⟨_, rfl⟩
        replace H : (if 0 ≤ (mn a3 (y478.length : Int)) then (if (mn a3 (y478.length : Int)) ≤ (y478.length : Int) then ((slices_Clone_byte_byte.f (y478.take ((mn a3 (y478.length : Int)) : Int).toNat)).bind fun t486 => (some (t486, 0))) else (none)) else (none)) = some (r1, r2) := by first | (rw [hy478]; with_reducible exact H) | (have H2_ := (Option.bind_some _ _).symm.trans H; rw [hy478]; with_reducible exact H2_) | (have H2_ := (Option.bind_some _ _).symm.trans H; with_reducible exact H2_) | with_reducible exact H | (rw [hy478]; exact H) | exact H
        have Ny478 := Aside0.mk hy478
        clear hy478
        obtain ⟨ji15, hji15⟩ : ∃ j_ : Int, (mn a3 (y478.length : Int)) = j_ := ⟨_, rfl⟩
        replace H : (if 0 ≤ (ji15) then (if (ji15) ≤ (y478.length : Int) then ((slices_Clone_byte_byte.f (y478.take ((ji15) : Int).toNat)).bind fun t486 => (some (t486, 0))) else (none)) else (none)) = some (r1, r2) := by first | (rw [hji15] at H; exact H) | (simp only [hji15] at H ⊢; exact H)
        (try rw [hji15] at A9)
        have hji15_ : (if (y478.length : Int) < a3 then (y478.length : Int) else a3) = ji15 := hji15
        by_cases c16 : 0 ≤ (ji15)
        ·rw [if_pos c16] at H
         have c16b0 := eq_true c16
         have c16b1 : decide (0 ≤ (ji15)) = true := decide_eq_true c16
         clear c16
         by_cases c17 : (ji15) ≤ (y478.length : Int)
         ·rw [if_pos c17] at H
          have c17b0 := eq_true c17
          have c17b1 : decide ((ji15) ≤ (y478.length : Int)) = true := decide_eq_true c17
          clear c17
          obtain ⟨y482, hy482⟩ : ∃ y_ : List Int, y_ = (y478.take ((ji15) : Int).toNat) := ⟨_, rfl⟩
          replace H : ((slices_Clone_byte_byte.f y482).bind fun t486 => (some (t486, 0))) = some (r1, r2) := by first | (rw [hy482]; with_reducible exact H) | (have H2_ := (Option.bind_some _ _).symm.trans H; rw [hy482]; with_reducible exact H2_) | (have H2_ := (Option.bind_some _ _).symm.trans H; with_reducible exact H2_) | with_reducible exact H | (rw [hy482]; exact H) | exact H
          have Ny482 := Aside0.mk hy482
          clear hy482
          replace H := bA H
          obtain ⟨t486, A18, H⟩ := H
          try dsimp only at H
          simp only [Option.some.injEq, Prod.mk.injEq] at H
          obtain ⟨rfl, rfl⟩ := H
          obtain ⟨⟨_, _⟩, _, _⟩ := z2 BK463
          go_wp2_with (first | ((with_reducible refine gate_callee (f := 28) rfl ?_); refine gl_ 22 Tryz.func28 (impl_Stat.calls kj4 _ _ l0_0 a0_1 a1 t464 t465 t466 t467 t470 t473 t476 _ (kC HR0_0) HC0_0.out A9.out) ?_; rintro e w20 ⟨v468, v471, v474, rfl, ho0, ho1, ho2, hb⟩; refine ⟨_, rfl, ?_⟩; have HO469 := Aside0.mk (Kd.R_lower ho0 (below_size oB)); have HO472 := Aside0.mk (Kd.R_lower ho1 (below_size oB)); have HO475 := Aside0.mk (Kd.R_lower ho2 (below_size oB)); replace BK463 := kb_ BK463 hb; replace HB := Aside0.mk (below_step oB hb); (try clear ho1); (try clear ho2)) | ((with_reducible refine gate_dst (N := 10) rfl ?_); refine bx_ 10 #[.int .i64 0, .int .i64 0, .int .i64 0, .slice none 0 0, .slice none 0 0, .slice none 0 0] 51 ?_; intro gb477 hg w21 hbox hb; have BK477 := Aside0.mk (hbox); have GW477 := gs_ hg; have NB463_477 := nl_ hg BK463; have NB477_463 := nr_ hg BK463; replace HO469 := kr_ HO469 hb; replace HO472 := kr_ HO472 hb; replace HO475 := kr_ HO475 hb; replace BK463 := kb_ BK463 hb; replace HB := Aside0.mk (below_step oB hb); clear hb hbox hg; have hnb22 := NB477_463.out; have hnc22 := NB463_477.out; obtain ⟨⟨_, _, _, _, _, _⟩, _, _, _, _, _, _⟩ := z6 BK477; obtain ⟨Ao24, co24, eo24⟩ := Kd.R_slice HO469.out; subst eo24; obtain ⟨Ao25, co25, eo25⟩ := Kd.R_slice HO472.out; subst eo25; obtain ⟨Ao26, co26, eo26⟩ := Kd.R_slice HO475.out; subst eo26) | ((with_reducible refine gate_store (t := 51) (p := 10) rfl ?_); refine store_event (t := 51) (p := 10) (v := ?vo_w27) (w1 := ((((((w21.setCell ⟨gb477, 0, none⟩ (.int .i64 t464)).setCell ⟨gb477, 1, none⟩ (.int .i64 t465)).setCell ⟨gb477, 2, none⟩ (.int .i64 t466)).setCell ⟨gb477, 3, none⟩ (.slice Ao24 t467.length co24)).setCell ⟨gb477, 4, none⟩ (.slice Ao25 t470.length co25)).setCell ⟨gb477, 5, none⟩ (.slice Ao26 t473.length co26))) ?hg ?ho ?hn ?hr ?_; (case ho => rfl); (case hg => rfl); (case hn => rfl); (case hr => first | (go_simp; done) | (go_simp; rfl)); intro w27 hw; have n0_ : Aside0 (Kd.R (Kd.int .u8) 5 w27 w.heap.size (fun _ => True) (.slice Ao24 t467.length co24) t467) := ⟨(by rw [hw]; exact (by (with_reducible repeat (first | apply Kd.R_alloc | apply Kd.R_drewN | apply Kd.R_drew)); exact Kd.R_mono (Kd.R_far (p := ⟨gb477, 5, none⟩) (Kd.R_far (p := ⟨gb477, 4, none⟩) (Kd.R_far (p := ⟨gb477, 3, none⟩) (Kd.R_far (p := ⟨gb477, 2, none⟩) (Kd.R_far (p := ⟨gb477, 1, none⟩) (Kd.R_far (p := ⟨gb477, 0, none⟩) (Kd.R_types HO469.out BK477.out (by decide)) (fun _ hk => hk.2) (.int .i64 t464)) (fun _ hk => hk.2) (.int .i64 t465)) (fun _ hk => hk.2) (.int .i64 t466)) (fun _ hk => hk.2) (.slice Ao24 t467.length co24)) (fun _ hk => hk.2) (.slice Ao25 t470.length co25)) (fun _ hk => hk.2) (.slice Ao26 t473.length co26)) (fun _ hk => trivial)))⟩; have n1_ : Aside0 (Kd.R k65 65 w27 w.heap.size (fun _ => True) (.slice Ao25 t470.length co25) t470) := ⟨(by rw [hw]; exact (by (with_reducible repeat (first | apply Kd.R_alloc | apply Kd.R_drewN | apply Kd.R_drew)); exact Kd.R_mono (Kd.R_far (p := ⟨gb477, 5, none⟩) (Kd.R_far (p := ⟨gb477, 4, none⟩) (Kd.R_far (p := ⟨gb477, 3, none⟩) (Kd.R_far (p := ⟨gb477, 2, none⟩) (Kd.R_far (p := ⟨gb477, 1, none⟩) (Kd.R_far (p := ⟨gb477, 0, none⟩) (Kd.R_types HO472.out BK477.out (by decide)) (fun _ hk => hk.2) (.int .i64 t464)) (fun _ hk => hk.2) (.int .i64 t465)) (fun _ hk => hk.2) (.int .i64 t466)) (fun _ hk => hk.2) (.slice Ao24 t467.length co24)) (fun _ hk => hk.2) (.slice Ao25 t470.length co25)) (fun _ hk => hk.2) (.slice Ao26 t473.length co26)) (fun _ hk => trivial)))⟩; have n2_ : Aside0 (Kd.R k71 71 w27 w.heap.size (fun _ => True) (.slice Ao26 t473.length co26) t473) := ⟨(by rw [hw]; exact (by (with_reducible repeat (first | apply Kd.R_alloc | apply Kd.R_drewN | apply Kd.R_drew)); exact Kd.R_mono (Kd.R_far (p := ⟨gb477, 5, none⟩) (Kd.R_far (p := ⟨gb477, 4, none⟩) (Kd.R_far (p := ⟨gb477, 3, none⟩) (Kd.R_far (p := ⟨gb477, 2, none⟩) (Kd.R_far (p := ⟨gb477, 1, none⟩) (Kd.R_far (p := ⟨gb477, 0, none⟩) (Kd.R_types HO475.out BK477.out (by decide)) (fun _ hk => hk.2) (.int .i64 t464)) (fun _ hk => hk.2) (.int .i64 t465)) (fun _ hk => hk.2) (.int .i64 t466)) (fun _ hk => hk.2) (.slice Ao24 t467.length co24)) (fun _ hk => hk.2) (.slice Ao25 t470.length co25)) (fun _ hk => hk.2) (.slice Ao26 t473.length co26)) (fun _ hk => trivial)))⟩; have n3_ : Aside0 (w27.heap[gb463]? = some (.cells #[.slice A0_0 l0_0.length c0_0, .int .i64 a0_1] 26 (0, 0))) := ⟨(by rw [hw]; exact (oF BK463))⟩; have n4_ : Aside0 (w27.heap[gb477]? = some (.cells #[.int .i64 t464, .int .i64 t465, .int .i64 t466, .slice Ao24 t467.length co24, .slice Ao25 t470.length co25, .slice Ao26 t473.length co26] 51 (0, 0))) := ⟨(by rw [hw]; exact (oP BK477))⟩; have n5_ : Aside0 (Below w.heap.size w w27) := ⟨(by rw [hw]; exact oB)⟩; clear hw; clear HO469; clear HO472; clear HO475; clear BK463; clear BK477; clear HB; have HO469 := n0_; have HO472 := n1_; have HO475 := n2_; have BK463 := n3_; have BK477 := n4_; have HB := n5_; clear n0_ n1_ n2_ n3_ n4_ n5_; obtain ⟨⟨_, _, _, _, _, _⟩, _, _, _, _, _, _⟩ := z6 BK477; have q29 : ((ji12) : Int) ≤ ((t467.length : Int) : Int) := oa; obtain ⟨i029, hi029, _, hsz29, _⟩ := info_parts info5; have hroom29 : t467.length ≤ co24 := (Kd.R_reads' HO469.out).2.1; have hC29 : Kd.C (Kd.int .u8) _ Ao24 t467.length t467 := (Kd.R_reads' HO469.out).2.2; have q029 : (0 : Int) ≤ ((ji12) : Int) := oa; have hcut29 := cut_from (P := Tryz.prog) 22 5 .i64 Tryz.underlying22 hi029 1 hsz29 Ao24 t467.length co24 (ji12) q029 q29; have hr29 := Kd.C_drop (m := ((ji12) : Int).toNat) (c := co24) hC29 (by omega) hroom29; obtain ⟨A29, hA29⟩ : ∃ A1, A1 = (if co24 = ((ji12) : Int).toNat then Ao24 else (Ao24 : Option Addr).map (·.add (((ji12) : Int).toNat * 1))) := ⟨_, rfl⟩; obtain ⟨c29, hc29⟩ : ∃ c1, c1 = co24 - ((ji12) : Int).toNat := ⟨_, rfl⟩; have hy29 : y478.length = t467.length - ((ji12) : Int).toNat := (by rw [Ny478.out, List.length_drop] <;> omega); rw [show (t467).drop ((ji12) : Int).toNat = y478 from Ny478.out.symm] at hr29; replace hr29 : Kd.C (Kd.int .u8) _ A29 y478.length y478 := (by rw [hA29]; exact hr29); rw [← hy29, ← hA29, ← hc29] at hcut29; have HR481 := Aside0.mk hr29; have HC481 := Aside0.mk (show y478.length ≤ c29 from by rw [hy29, hc29]; exact Nat.sub_le_sub_right hroom29 _); clear hr29 hC29 hroom29 hi029 hsz29 hc29; have KY29 := Aside0.mk hy29; have KA29 := Aside0.mk hA29; clear hy29 hA29; have KL29 := Aside0.mk (show ((ji12) : Int).toNat ≤ t467.length from by omega); replace q29 := eq_true q29; have q30 : ((ji15) : Int) ≤ ((y478.length : Int) : Int) := oa; obtain ⟨i030, hi030, _, hsz30, _⟩ := info_parts info5; have hroom30 : y478.length ≤ c29 := HC481.out; have hC30 : Kd.C (Kd.int .u8) _ A29 y478.length y478 := (by repeat (first | (with_reducible exact HR481.out) | (with_reducible refine Kd.C_alloc ?_ _) | (with_reducible refine Kd.C_drewN ?_ _) | (with_reducible refine Kd.C_drew ?_) | exact HR481.out)); have hcut30 := cut_to (P := Tryz.prog) 22 5 .i64 Tryz.underlying22 hi030 A29 y478.length c29 (ji15) oa q30 hroom30; have hr30 := Kd.C_take (m := ((ji15) : Int).toNat) hC30 (by omega); have hy30 : y482.length = ((ji15) : Int).toNat := (by rw [Ny482.out, List.length_take]; omega); rw [← Ny482.out] at hr30; rw [← hy30] at hcut30; have HR485 := Aside0.mk hr30; have HC485 := Aside0.mk (show y482.length ≤ c29 from by omega); clear hr30 hC30 hroom30 hi030 hsz30; have KY30 := Aside0.mk hy30; clear hy30; replace q30 := eq_true q30) | ((with_reducible refine gate_callee (f := 51) rfl ?_); refine gl_ 45 Tryz.func51 (slices_Clone_byte_byte.calls _ _ y482 t486 _ ?side1 HC485.out A18.out) ?_; (case side1 => repeat (first | exact (by repeat (first | (with_reducible exact HR485.out) | (with_reducible refine Kd.C_alloc ?_ _) | (with_reducible refine Kd.C_drewN ?_ _) | (with_reducible refine Kd.C_drew ?_) | exact HR485.out)) | (with_reducible refine Kd.C_alloc ?_ _) | (with_reducible refine Kd.C_drewN ?_ _) | (with_reducible refine Kd.C_drew ?_))); rintro e w31 ⟨v487, rfl, ho0, hb⟩; refine ⟨_, rfl, ?_⟩; have HO488 := Aside0.mk (Kd.R_lower (Kd.R_new' ho0 (kl_ HO469)) (below_size oB)); replace HO469 := ke_ HO469 ho0 hb; replace HO472 := kr_ HO472 hb; replace HO475 := kr_ HO475 hb; replace BK463 := kb_ BK463 hb; replace BK477 := kb_ BK477 hb; replace HR481 := Aside0.mk (Kd.C_below (by repeat (first | (with_reducible exact HR481.out) | (with_reducible refine Kd.C_alloc ?_ _) | (with_reducible refine Kd.C_drewN ?_ _) | (with_reducible refine Kd.C_drew ?_) | exact HR481.out)) hb); replace HR485 := Aside0.mk (Kd.C_below (by repeat (first | (with_reducible exact HR485.out) | (with_reducible refine Kd.C_alloc ?_ _) | (with_reducible refine Kd.C_drewN ?_ _) | (with_reducible refine Kd.C_drew ?_) | exact HR485.out)) hb); replace HB := Aside0.mk (below_step oB hb)))
          go_ret2
          exact ⟨_, by first | rfl | (simp [errW_none, errW_some] <;> rfl) | (simp only [← hji12, ← hji15]; first | rfl | (simp [errW_none, errW_some] <;> rfl)) | (simp [*, errW_none, errW_some] <;> rfl), by (with_reducible repeat (first | apply Kd.R_alloc | apply Kd.R_drewN | apply Kd.R_drew)); exact Kd.R_mono HO488.out (fun _ hk => trivial), oB⟩
         ·rw [if_neg c17] at H
          exact absurd H (by simp)
        ·rw [if_neg c16] at H
         exact absurd H (by simp)
       ·rw [if_neg c14] at H
        exact absurd H (by simp)
      ·rw [if_neg c13] at H
       exact absurd H (by simp)
     ·rw [if_neg c11] at H
      have c11b0 : (t465 == 1) = false := beq_eq_false_iff_ne.mpr c11
      have c11b1 : (t465 != 1) = true := bne_iff_ne.mpr c11
      simp only [Option.some.injEq, Prod.mk.injEq] at H
      obtain ⟨rfl, rfl⟩ := H
      obtain ⟨⟨_, _⟩, _, _⟩ := z2 BK463
      go_wp2_with (first | ((with_reducible refine gate_callee (f := 28) rfl ?_); refine gl_ 22 Tryz.func28 (impl_Stat.calls kj4 _ _ l0_0 a0_1 a1 t464 t465 t466 t467 t470 t473 t476 _ (kC HR0_0) HC0_0.out A9.out) ?_; rintro e w33 ⟨v468, v471, v474, rfl, ho0, ho1, ho2, hb⟩; refine ⟨_, rfl, ?_⟩; have HO469 := Aside0.mk (Kd.R_lower ho0 (below_size oB)); have HO472 := Aside0.mk (Kd.R_lower ho1 (below_size oB)); have HO475 := Aside0.mk (Kd.R_lower ho2 (below_size oB)); replace BK463 := kb_ BK463 hb; replace HB := Aside0.mk (below_step oB hb); (try clear ho1); (try clear ho2)) | ((with_reducible refine gate_dst (N := 10) rfl ?_); refine bx_ 10 #[.int .i64 0, .int .i64 0, .int .i64 0, .slice none 0 0, .slice none 0 0, .slice none 0 0] 51 ?_; intro gb477 hg w34 hbox hb; have BK477 := Aside0.mk (hbox); have GW477 := gs_ hg; have NB463_477 := nl_ hg BK463; have NB477_463 := nr_ hg BK463; replace HO469 := kr_ HO469 hb; replace HO472 := kr_ HO472 hb; replace HO475 := kr_ HO475 hb; replace BK463 := kb_ BK463 hb; replace HB := Aside0.mk (below_step oB hb); clear hb hbox hg; have hnb35 := NB477_463.out; have hnc35 := NB463_477.out; obtain ⟨⟨_, _, _, _, _, _⟩, _, _, _, _, _, _⟩ := z6 BK477; obtain ⟨Ao37, co37, eo37⟩ := Kd.R_slice HO469.out; subst eo37; obtain ⟨Ao38, co38, eo38⟩ := Kd.R_slice HO472.out; subst eo38; obtain ⟨Ao39, co39, eo39⟩ := Kd.R_slice HO475.out; subst eo39))
      go_ret2
      exact ⟨_, oE, by first | exact Kd.R_nil _ _ _ _ _ | exact Kd.N_nil _ _ _ _ _ | exact Kd.V_nil _ _ _ _ _ | exact Kd.Q_nil _ _ _ _ _ | exact Kd.S_nil _ _ _ _ _, oB⟩
    ·rw [if_neg c10] at H
     have c10b0 : (t476 == 0) = false := beq_eq_false_iff_ne.mpr c10
     have c10b1 : (t476 != 0) = true := bne_iff_ne.mpr c10
     simp only [Option.some.injEq, Prod.mk.injEq] at H
     obtain ⟨rfl, rfl⟩ := H
     obtain ⟨⟨_, _⟩, _, _⟩ := z2 BK463
     go_wp2_with (first | ((with_reducible refine gate_callee (f := 28) rfl ?_); refine gl_ 22 Tryz.func28 (impl_Stat.calls kj4 _ _ l0_0 a0_1 a1 t464 t465 t466 t467 t470 t473 t476 _ (kC HR0_0) HC0_0.out A9.out) ?_; rintro e w41 ⟨v468, v471, v474, rfl, ho0, ho1, ho2, hb⟩; refine ⟨_, rfl, ?_⟩; have HO469 := Aside0.mk (Kd.R_lower ho0 (below_size oB)); have HO472 := Aside0.mk (Kd.R_lower ho1 (below_size oB)); have HO475 := Aside0.mk (Kd.R_lower ho2 (below_size oB)); replace BK463 := kb_ BK463 hb; replace HB := Aside0.mk (below_step oB hb); (try clear ho1); (try clear ho2)) | ((with_reducible refine gate_dst (N := 10) rfl ?_); refine bx_ 10 #[.int .i64 0, .int .i64 0, .int .i64 0, .slice none 0 0, .slice none 0 0, .slice none 0 0] 51 ?_; intro gb477 hg w42 hbox hb; have BK477 := Aside0.mk (hbox); have GW477 := gs_ hg; have NB463_477 := nl_ hg BK463; have NB477_463 := nr_ hg BK463; replace HO469 := kr_ HO469 hb; replace HO472 := kr_ HO472 hb; replace HO475 := kr_ HO475 hb; replace BK463 := kb_ BK463 hb; replace HB := Aside0.mk (below_step oB hb); clear hb hbox hg; have hnb43 := NB477_463.out; have hnc43 := NB463_477.out; obtain ⟨⟨_, _, _, _, _, _⟩, _, _, _, _, _, _⟩ := z6 BK477; obtain ⟨Ao45, co45, eo45⟩ := Kd.R_slice HO469.out; subst eo45; obtain ⟨Ao46, co46, eo46⟩ := Kd.R_slice HO472.out; subst eo46; obtain ⟨Ao47, co47, eo47⟩ := Kd.R_slice HO475.out; subst eo47))
     go_ret2
     exact ⟨_, oE, by first | exact Kd.R_nil _ _ _ _ _ | exact Kd.N_nil _ _ _ _ _ | exact Kd.V_nil _ _ _ _ _ | exact Kd.Q_nil _ _ _ _ _ | exact Kd.S_nil _ _ _ _ _, oB⟩

/-! ### laws_FnHoles: function 4 -/
mutual
def laws_FnHoles.j0 : Nat → Int → List Int → Bool → Option (Bool)
 | 0, _, _, _ => none
 | k + 1, x3, x8, x57 => if x57 = true then (some false) else (laws_FnHoles.l0 k x3 x8 0)
def laws_FnHoles.l0 : Nat → Int → List Int → Int → Option (Bool)
 | 0, _, _, _ => none
 | k + 1, x3, x8, x10 => if x10 < x3 then (if 0 ≤ x10 then (if x10 < (x8.length : Int) then (if (rd x8 x10) = 0 then (laws_FnHoles.l0 k x3 x8 (wrap64 (x10 + 1))) else (some false)) else (none)) else (none)) else (some true)
end
def laws_FnHoles.f (k : Nat) (l0 : List Int) : Option (Bool) := (laws_big.f l0).bind fun t489 => (if t489 = true then (some true) else ((laws_at.f l0 2).bind fun t490 => ((laws_grown.f k l0).bind fun bt491 => ((impl_WriteAt.f k bt491.1 bt491.2.1 (⟨#[47, 100, 105, 114, 47, 116, 119, 111]⟩ : ByteArray) (Int.tmod t490 90) (([120] : List Int))).bind fun bt500 => ((impl_ReadFile.f k bt500.1 bt500.2.1 (⟨#[47, 100, 105, 114, 47, 116, 119, 111]⟩ : ByteArray) 0 1000).bind fun bt506 => (if bt491.2.2 = true then (if bt500.2.2 = 0 then (if bt506.2 = 0 then (if (bt506.1.length : Int) = (wrap64 ((Int.tmod t490 90) + 1)) then (if 0 ≤ (Int.tmod t490 90) then (if (Int.tmod t490 90) < (bt506.1.length : Int) then (laws_FnHoles.j0 k (Int.tmod t490 90) bt506.1 ((rd bt506.1 (Int.tmod t490 90)) != 120)) else (none)) else (none)) else (laws_FnHoles.j0 k (Int.tmod t490 90) bt506.1 true)) else (laws_FnHoles.j0 k (Int.tmod t490 90) bt506.1 true)) else (laws_FnHoles.j0 k (Int.tmod t490 90) bt506.1 true)) else (laws_FnHoles.j0 k (Int.tmod t490 90) bt506.1 true)))))))
set_option maxHeartbeats 8000000 in
set_option maxRecDepth 100000 in
theorem laws_FnHoles.calls (k : Nat) (A0 : Option Addr) (c0 : Nat) (l0 : List Int) (r : Bool) (w : World) (hr0 : Kd.C (Kd.int .u8) w A0 l0.length l0) (hc0 : l0.length ≤ c0) (h : laws_FnHoles.f k l0 = some r) (hG : GOk w := by exact gk_ oB (by first | (with_reducible assumption) | assumption)) :
  Calls Tryz.prog 4 #[.slice A0 l0.length c0] w fun e w' => e = .returned (.bool r) ∧ Below w.heap.size w w' := by
 have HG := Aside0.mk hG
 clear hG
 have hu26 := Tryz.underlying26
 have HR0 := Aside0.mk hr0
 have HC0 := Aside0.mk hc0
 clear hr0 hc0
 have HB := Aside0.mk (Below.refl w.heap.size w)
 unfold laws_FnHoles.f at h
 have H := h
 clear h
 replace H := bA H
 obtain ⟨t489, A2, H⟩ := H
 try dsimp only at H
 replace H := itB H
 rcases H with ⟨rfl, H⟩ | ⟨rfl, H⟩
 ·obtain rfl := Option.some.inj H
  go_enter Tryz.func4, Tryz.ntmps4
  go_wp2_with (first | ((with_reducible refine gate_callee (f := 11) rfl ?_); refine gl_ 12 Tryz.func11 (laws_big.calls _ _ l0 true _ (kD HR0) HC0.out A2.out) ?_; rintro e w' ⟨rfl, ⟨nd, rfl⟩⟩; refine ⟨_, rfl, ?_⟩))
  go_ret
  exact ⟨oE, oB⟩
 ·replace H := bA H
  obtain ⟨t490, A4, H⟩ := H
  try dsimp only at H
  replace H := bA H
  obtain ⟨⟨t491, t494, t495⟩, A5, H⟩ := H
  try dsimp only at H
  obtain ⟨y497, hy497⟩ : ∃ y_ : List Int, y_ = (([120] : List Int)) := ⟨_, rfl⟩
  replace H : ((impl_WriteAt.f k t491 t494 (⟨#[47, 100, 105, 114, 47, 116, 119, 111]⟩ : ByteArray) (Int.tmod t490 90) y497).bind fun bt500 => ((impl_ReadFile.f k bt500.1 bt500.2.1 (⟨#[47, 100, 105, 114, 47, 116, 119, 111]⟩ : ByteArray) 0 1000).bind fun bt506 => (if t495 = true then (if bt500.2.2 = 0 then (if bt506.2 = 0 then (if (bt506.1.length : Int) = (wrap64 ((Int.tmod t490 90) + 1)) then (if 0 ≤ (Int.tmod t490 90) then (if (Int.tmod t490 90) < (bt506.1.length : Int) then (laws_FnHoles.j0 k (Int.tmod t490 90) bt506.1 ((rd bt506.1 (Int.tmod t490 90)) != 120)) else (none)) else (none)) else (laws_FnHoles.j0 k (Int.tmod t490 90) bt506.1 true)) else (laws_FnHoles.j0 k (Int.tmod t490 90) bt506.1 true)) else (laws_FnHoles.j0 k (Int.tmod t490 90) bt506.1 true)) else (laws_FnHoles.j0 k (Int.tmod t490 90) bt506.1 true)))) = some r := by first | (rw [hy497]; with_reducible exact H) | (have H2_ := (Option.bind_some _ _).symm.trans H; rw [hy497]; with_reducible exact H2_) | (have H2_ := (Option.bind_some _ _).symm.trans H; with_reducible exact H2_) | with_reducible exact H | (rw [hy497]; exact H) | exact H
  have Ny497 := Aside0.mk hy497
  clear hy497
  replace H := bA H
  obtain ⟨⟨t500, t503, t504⟩, A6, H⟩ := H
  try dsimp only at H
  replace H := bA H
  obtain ⟨⟨t506, t509⟩, A7, H⟩ := H
  try dsimp only at H
  have HC8 := Aside0.mk H
  clear H
  go_enter Tryz.func4, Tryz.ntmps4
  go_upto_region 7 with (first | ((with_reducible refine gate_callee (f := 11) rfl ?_); refine gl_ 12 Tryz.func11 (laws_big.calls _ _ l0 false _ (kD HR0) HC0.out A2.out) ?_; rintro e w' ⟨rfl, ⟨nd, rfl⟩⟩; refine ⟨_, rfl, ?_⟩) | ((with_reducible refine gate_callee (f := 20) rfl ?_); refine gl_ 14 Tryz.func20 (laws_at.calls _ _ l0 2 t490 _ (kD HR0) HC0.out A4.out) ?_; rintro e w' ⟨rfl, ⟨nd, rfl⟩⟩; refine ⟨_, rfl, ?_⟩) | ((with_reducible refine gate_callee (f := 21) rfl ?_); refine gl_ 18 Tryz.func21 (laws_grown.calls k _ _ l0 t491 t494 t495 _ (kD HR0) HC0.out A5.out) ?_; rintro e w9 ⟨v492, rfl, ho0, hb⟩; refine ⟨_, rfl, ?_⟩; have HO493 := Aside0.mk (Kd.S_lower ho0 (below_size oB)); replace HB := Aside0.mk (below_step oB hb)) | ((with_reducible refine gate_dst (N := 4) rfl ?_); (try (refine gate_guard (by rfl) ?_; dsimp only)); refine bx_ 4 #[.slice none 0 0, .int .i64 0] 26 ?_; intro gb496 hg w10 hbox hb; have BK496 := Aside0.mk (hbox); have GW496 := gs_ hg; replace HO493 := beS0 HO493 hb; replace HB := Aside0.mk (below_step oB hb); clear hb hbox hg; obtain ⟨Ao11, co11, eo11⟩ := Kd.S_slice HO493.out; subst eo11; obtain ⟨⟨_, _⟩, _, _⟩ := z2 BK496) | ((with_reducible refine gate_dst (N := 24) rfl ?_); (try (refine gate_guard (by rfl) ?_; dsimp only)); refine Kd.R_lit (Kd.int .u8) _ 5 ?hg (N := 24) ?hd (xs := ([120] : List Int)) (inner := [.int .u8 120]) (ok := fun _ => True) (okp := fun _ => True) ?hr ?hp (fun _ hk => hk) trivial (Below.refl _ _) (Nat.le_refl _) (by simp) ?_; (case hd => rfl); (case hg => rfl); (case hr => first | (go_simp; done) | (go_simp; rfl)); (case hp => exact (Reps.one (show Kd.M (Kd.int .u8) _ _ _ 120 [.int .u8 120] from rfl) (Reps.none _ _))); intro v498 w13 ho14 hb hg_ hnew_; clear hg_ hnew_; (first | rw [← Ny497.out] at ho14 | (simp only [Int.reduceToNat] at ho14; rw [← Ny497.out] at ho14)); have HO499 := Aside0.mk (Kd.R_lower ho14 (below_size oB)); replace HO493 := elS1 HO493 BK496 (Kd.R_base ho14) hb; replace BK496 := kp_ #[.slice Ao11 t491.length co11, .int .i64 t494] BK496 hb; replace HB := Aside0.mk (below_step oB hb); clear hb ho14; obtain ⟨Ao15, co15, eo15⟩ := Kd.R_slice HO499.out; subst eo15; obtain ⟨wm_, hcv_, hgm_, hCm_⟩ := mark_ Tryz.underlying22 Tryz.underlying5 HO499.out (by rw [Ny497.out]; decide); have HC499 := Aside0.mk (ko HO499); have HR499 := Aside0.mk hCm_; replace HO493 := Aside0.mk (Kd.S_grown HO493.out hgm_ (fun _ hk => hk.2)); replace BK496 := bg_ BK496 hgm_ HO499.out; replace HB := Aside0.mk (Below.grown (oB : Below w.heap.size w w13) hgm_ (below_size oB) (Kd.R_base HO499.out)); clear hCm_ hgm_ HO499) | ((with_reducible refine gate_callee (f := 22) rfl ?_); refine gl_ 26 Tryz.func22 (impl_WriteAt.calls k _ _ t491 t494 (⟨#[47, 100, 105, 114, 47, 116, 119, 111]⟩ : ByteArray) (Int.tmod t490 90) _ _ y497 t500 t503 t504 _ (rcS0 HO493) (rnS HO493) (kD HR499) HC499.out A6.out) ?_; rintro e w16 ⟨v501, rfl, ho0, hb⟩; refine ⟨_, rfl, ?_⟩; have HO502 := Aside0.mk (Kd.S_lower (Kd.S_mono (Kd.S_new' ho0 (ltS0 HO493)) (fun _ h_ => (⟨h_, trivial⟩ : _ ∧ True))) (below_size oB)); replace HO493 := elS0 HO493 (Kd.S_base ho0) hb; replace BK496 := kb_ BK496 hb; replace HB := Aside0.mk (below_step oB hb)) | ((with_reducible refine gate_dst (N := 6) rfl ?_); (try (refine gate_guard (by rfl) ?_; dsimp only)); refine bx_ 6 #[.slice none 0 0, .int .i64 0] 26 ?_; intro gb505 hg w17 hbox hb; have BK505 := Aside0.mk (hbox); have GW505 := gs_ hg; have NB496_505 := nl_ hg BK496; have NB505_496 := nr_ hg BK496; replace HO493 := beS0 HO493 hb; replace HO502 := beS0 HO502 hb; replace BK496 := kb_ BK496 hb; replace HB := Aside0.mk (below_step oB hb); clear hb hbox hg; obtain ⟨Ao18, co18, eo18⟩ := Kd.S_slice HO502.out; subst eo18; have hnb19 := NB505_496.out; have hnc19 := NB496_505.out; obtain ⟨⟨_, _⟩, _, _⟩ := z2 BK505) | ((with_reducible refine gate_callee (f := 23) rfl ?_); refine gl_ 31 Tryz.func23 (impl_ReadFile.calls k _ _ t500 t503 (⟨#[47, 100, 105, 114, 47, 116, 119, 111]⟩ : ByteArray) 0 1000 t506 t509 _ (rcS1 HO502 BK505) (rnS HO502) A7.out) ?_; rintro e w21 ⟨v507, rfl, ho0, hb⟩; refine ⟨_, rfl, ?_⟩; have HO508 := Aside0.mk (Kd.R_lower (Kd.R_mono ho0 (fun _ h_ => (⟨h_, trivial⟩ : _ ∧ True))) (below_size oB)); replace HO493 := elS1 HO493 BK505 (Kd.R_base ho0) hb; replace HO502 := elS1 HO502 BK505 (Kd.R_base ho0) hb; replace BK496 := kb_ BK496 hb; replace BK505 := kp_ #[.slice Ao18 t500.length co18, .int .i64 t503] BK505 hb; replace HB := Aside0.mk (below_step oB hb); (try clear hk)))
  (try simp only [Act.put, List.setIfInBounds_toArray, List.set_cons_zero, List.set_cons_succ])
  go_cut [57] (fun v57 wc => ∃ (kq : Nat) (x57_7 : Bool), v57 = .bool x57_7 ∧ Aside0 (laws_FnHoles.j0 kq (Int.tmod t490 90) t506 x57_7 = some r) ∧ Aside0 (kq ≤ k) ∧ Aside0 (Kd.R (Kd.int .u8) 5 wc w.heap.size (fun _ => True) v507 t506) ∧ Aside0 (Kd.S k51 51 wc w.heap.size (fun k_ => some k_ ≠ (v507 : Value).ownBlock ∧ some k_ ≠ ((.slice Ao18 t500.length co18) : Value).ownBlock) (.slice Ao11 t491.length co11) t491) ∧ Aside0 (Kd.S k51 51 wc w.heap.size (fun k_ => some k_ ≠ (v507 : Value).ownBlock ∧ some k_ ≠ ((.slice Ao11 t491.length co11) : Value).ownBlock) (.slice Ao18 t500.length co18) t500) ∧ Aside0 (wc.heap[gb496]? = some (.cells #[(.slice Ao11 t491.length co11), .int .i64 t494] 26 (0, 0))) ∧ Aside0 (wc.heap[gb505]? = some (.cells #[(.slice Ao18 t500.length co18), .int .i64 t503] 26 (0, 0))) ∧ Aside0 (Below w.heap.size w wc))
  case first =>
   have H := HC8.out
   clear HC8
   replace H := itB H
   rcases H with ⟨rfl, H⟩ | ⟨rfl, H⟩
   ·by_cases c23 : t504 = 0
    ·rw [if_pos c23] at H
     have c23b0 : (t504 == 0) = true := beq_iff_eq.mpr c23
     have c23b1 : (t504 != 0) = false := bne_eq_false_iff_eq.mpr c23
     clear c23
     (first | rw [c23b0] | rw [c23b2] | (simp only [i64_w, i32_w]; rw [c23b0]) | skip)
     by_cases c24 : t509 = 0
     ·rw [if_pos c24] at H
      have c24b0 : (t509 == 0) = true := beq_iff_eq.mpr c24
      have c24b1 : (t509 != 0) = false := bne_eq_false_iff_eq.mpr c24
      clear c24
      by_cases c25 : (t506.length : Int) = (wrap64 ((Int.tmod t490 90) + 1))
      ·rw [if_pos c25] at H
       have c25b0 : ((t506.length : Int) == (wrap64 ((Int.tmod t490 90) + 1))) = true := beq_iff_eq.mpr c25
       have c25b1 : ((t506.length : Int) != (wrap64 ((Int.tmod t490 90) + 1))) = false := bne_eq_false_iff_eq.mpr c25
       clear c25
       obtain ⟨ji26, hji26⟩ : ∃ j_ : Int, (Int.tmod t490 90) = j_ := ⟨_, rfl⟩
       replace H : (if 0 ≤ (ji26) then (if (ji26) < (t506.length : Int) then (laws_FnHoles.j0 k ji26 t506 ((rd t506 (ji26)) != 120)) else (none)) else (none)) = some r := by first | (rw [hji26] at H; exact H) | (simp only [hji26] at H ⊢; exact H)
       (try rw [hji26] at c25b0)
       (try rw [hji26] at c25b1)
       replace H := itD H
       rcases H with ⟨c27b0, H⟩ | ⟨c27b0, H⟩
       ·replace H := itD H
        rcases H with ⟨c28b0, H⟩ | ⟨c28b0, H⟩
        ·have H' := Aside0.mk H
         clear H
         obtain ⟨Ao29, co29, eo29⟩ := Kd.R_slice HO508.out
         subst eo29
         have p510 : (0 ≤ ((ji26) : Int)) = True := oT
         have q510 : ((ji26) < (t506.length : Int)) = True := oT
         obtain ⟨ad510, e510, hx510_0⟩ := Kd.at_int (Kd.R_reads' HO508.out).2.2 (ji26) oa oa
         cases e510
         go_wp2
         go_meet
         case rel => exact ⟨_, (((rd t506 (ji26)) != 120)), (by first | rfl | (simp; done) | (simp only [← hji26] <;> (first | rfl | simp)) | (simp [*]; done)), (by first | exact H' | (simp only [hji26] at H' ⊢; exact H')), ⟨by first | omega | exact Nat.le_refl _⟩, ⟨by (with_reducible repeat (first | apply Kd.R_alloc | apply Kd.R_drewN | apply Kd.R_drew)); exact Kd.R_mono HO508.out (fun _ hk => trivial)⟩, ⟨by (with_reducible repeat (first | apply Kd.S_alloc | apply Kd.S_drewN | apply Kd.S_drew)); exact Kd.S_mono HO493.out (fun _ hk => ⟨hk.2, hk.1.2⟩)⟩, ⟨by (with_reducible repeat (first | apply Kd.S_alloc | apply Kd.S_drewN | apply Kd.S_drew)); exact Kd.S_mono HO502.out (fun _ hk => ⟨hk.2, hk.1.1.2⟩)⟩, ⟨oF BK496⟩, ⟨oF BK505⟩, ⟨oB⟩⟩
        ·cases H
       ·cases H
      ·rw [if_neg c25] at H
       have c25b0 : ((t506.length : Int) == (wrap64 ((Int.tmod t490 90) + 1))) = false := beq_eq_false_iff_ne.mpr c25
       have c25b1 : ((t506.length : Int) != (wrap64 ((Int.tmod t490 90) + 1))) = true := bne_iff_ne.mpr c25
       have H' := Aside0.mk H
       clear H
       obtain ⟨Ao30, co30, eo30⟩ := Kd.R_slice HO508.out
       subst eo30
       go_wp2
       go_meet
       case rel => exact ⟨_, (true), oS, H', ⟨by first | omega | exact Nat.le_refl _⟩, ⟨by (with_reducible repeat (first | apply Kd.R_alloc | apply Kd.R_drewN | apply Kd.R_drew)); exact Kd.R_mono HO508.out (fun _ hk => trivial)⟩, ⟨by (with_reducible repeat (first | apply Kd.S_alloc | apply Kd.S_drewN | apply Kd.S_drew)); exact Kd.S_mono HO493.out (fun _ hk => ⟨hk.2, hk.1.2⟩)⟩, ⟨by (with_reducible repeat (first | apply Kd.S_alloc | apply Kd.S_drewN | apply Kd.S_drew)); exact Kd.S_mono HO502.out (fun _ hk => ⟨hk.2, hk.1.1.2⟩)⟩, ⟨oF BK496⟩, ⟨oF BK505⟩, ⟨oB⟩⟩
     ·rw [if_neg c24] at H
      have c24b0 : (t509 == 0) = false := beq_eq_false_iff_ne.mpr c24
      have c24b1 : (t509 != 0) = true := bne_iff_ne.mpr c24
      have H' := Aside0.mk H
      clear H
      go_wp2
      go_meet
      case rel => exact ⟨_, (true), oS, H', ⟨by first | omega | exact Nat.le_refl _⟩, ⟨by (with_reducible repeat (first | apply Kd.R_alloc | apply Kd.R_drewN | apply Kd.R_drew)); exact Kd.R_mono HO508.out (fun _ hk => trivial)⟩, ⟨by (with_reducible repeat (first | apply Kd.S_alloc | apply Kd.S_drewN | apply Kd.S_drew)); exact Kd.S_mono HO493.out (fun _ hk => ⟨hk.2, hk.1.2⟩)⟩, ⟨by (with_reducible repeat (first | apply Kd.S_alloc | apply Kd.S_drewN | apply Kd.S_drew)); exact Kd.S_mono HO502.out (fun _ hk => ⟨hk.2, hk.1.1.2⟩)⟩, ⟨oF BK496⟩, ⟨oF BK505⟩, ⟨oB⟩⟩
    ·rw [if_neg c23] at H
     have c23b0 : (t504 == 0) = false := beq_eq_false_iff_ne.mpr c23
     have c23b1 : (t504 != 0) = true := bne_iff_ne.mpr c23
     (first | rw [c23b0] | rw [c23b2] | (simp only [i64_w, i32_w]; rw [c23b0]) | skip)
     have H' := Aside0.mk H
     clear H
     go_wp2
     go_meet
     case rel => exact ⟨_, (true), oS, H', ⟨by first | omega | exact Nat.le_refl _⟩, ⟨by (with_reducible repeat (first | apply Kd.R_alloc | apply Kd.R_drewN | apply Kd.R_drew)); exact Kd.R_mono HO508.out (fun _ hk => trivial)⟩, ⟨by (with_reducible repeat (first | apply Kd.S_alloc | apply Kd.S_drewN | apply Kd.S_drew)); exact Kd.S_mono HO493.out (fun _ hk => ⟨hk.2, hk.1.2⟩)⟩, ⟨by (with_reducible repeat (first | apply Kd.S_alloc | apply Kd.S_drewN | apply Kd.S_drew)); exact Kd.S_mono HO502.out (fun _ hk => ⟨hk.2, hk.1.1.2⟩)⟩, ⟨oF BK496⟩, ⟨oF BK505⟩, ⟨oB⟩⟩
   ·have H' := Aside0.mk H
    clear H
    go_wp2
    go_meet
    case rel => exact ⟨_, (true), oS, H', ⟨by first | omega | exact Nat.le_refl _⟩, ⟨by (with_reducible repeat (first | apply Kd.R_alloc | apply Kd.R_drewN | apply Kd.R_drew)); exact Kd.R_mono HO508.out (fun _ hk => trivial)⟩, ⟨by (with_reducible repeat (first | apply Kd.S_alloc | apply Kd.S_drewN | apply Kd.S_drew)); exact Kd.S_mono HO493.out (fun _ hk => ⟨hk.2, hk.1.2⟩)⟩, ⟨by (with_reducible repeat (first | apply Kd.S_alloc | apply Kd.S_drewN | apply Kd.S_drew)); exact Kd.S_mono HO502.out (fun _ hk => ⟨hk.2, hk.1.1.2⟩)⟩, ⟨oF BK496⟩, ⟨oF BK505⟩, ⟨oB⟩⟩
  case rest =>
   clear HC8
   obtain ⟨kq, x57_7, rfl, HA, HJ7, HO_8, HO_497000, HO_506000, BK496, BK505, HB⟩ := hcut
   cases kq with
   | zero => exact absurd HA.out (by simp [laws_FnHoles.j0])
   | succ kj7 =>
    have H := HA.out
    clear HA
    simp only [laws_FnHoles.j0] at H
    replace H := itB H
    rcases H with ⟨rfl, H⟩ | ⟨rfl, H⟩
    ·obtain rfl := Option.some.inj H
     go_wp2
     go_ret
     exact ⟨oE, oB⟩
    ·have H' := Aside0.mk H
     clear H
     go_wp2
     go_loopg [10] kj7 (fun kq v10 w' => ∃ (x10_2 : Int), v10 = .int .i64 x10_2 ∧ Aside0 (laws_FnHoles.l0 kq (Int.tmod t490 90) t506 x10_2 = some r) ∧ Aside0 (kq ≤ kj7) ∧ Aside0 (Kd.R (Kd.int .u8) 5 w' w.heap.size (fun _ => True) v507 t506) ∧ Aside0 (Kd.S k51 51 w' w.heap.size (fun k_ => some k_ ≠ (v507 : Value).ownBlock ∧ some k_ ≠ ((.slice Ao18 t500.length co18) : Value).ownBlock) (.slice Ao11 t491.length co11) t491) ∧ Aside0 (Kd.S k51 51 w' w.heap.size (fun k_ => some k_ ≠ (v507 : Value).ownBlock ∧ some k_ ≠ ((.slice Ao11 t491.length co11) : Value).ownBlock) (.slice Ao18 t500.length co18) t500) ∧ Aside0 (w'.heap[gb496]? = some (.cells #[(.slice Ao11 t491.length co11), .int .i64 t494] 26 (0, 0))) ∧ Aside0 (w'.heap[gb505]? = some (.cells #[(.slice Ao18 t500.length co18), .int .i64 t503] 26 (0, 0))) ∧ Aside0 (Below w.heap.size w w'))
     case atStart => exact ⟨(0), oS, H', ⟨Nat.le_refl _⟩, ⟨oR HO_8⟩, ⟨by (with_reducible repeat (first | apply Kd.S_alloc | apply Kd.S_drewN | apply Kd.S_drew)); exact HO_497000.out⟩, ⟨by (with_reducible repeat (first | apply Kd.S_alloc | apply Kd.S_drewN | apply Kd.S_drew)); exact HO_506000.out⟩, ⟨oF BK496⟩, ⟨oF BK505⟩, ⟨oB⟩⟩
     case round =>
      clear H'
      obtain ⟨x10_2, rfl, HA, HK2, HO_8, HO_497000, HO_506000, BK496, BK505, HB⟩ := hrel
      cases gk with
      | zero => exact absurd HA.out (by simp [laws_FnHoles.l0])
      | succ k2 =>
       have H := HA.out
       clear HA
       simp only [laws_FnHoles.l0] at H
       replace H := itD H
       rcases H with ⟨c32b0, H⟩ | ⟨c32b0, H⟩
       ·replace H := itD H
        rcases H with ⟨c33b0, H⟩ | ⟨c33b0, H⟩
        ·replace H := itD H
         rcases H with ⟨c34b0, H⟩ | ⟨c34b0, H⟩
         ·by_cases c35 : (rd t506 x10_2) = 0
          ·rw [if_pos c35] at H
           have c35b0 : ((rd t506 x10_2) == 0) = true := beq_iff_eq.mpr c35
           have c35b1 : ((rd t506 x10_2) != 0) = false := bne_eq_false_iff_eq.mpr c35
           clear c35
           have H' := Aside0.mk H
           clear H
           obtain ⟨Ao36, co36, eo36⟩ := Kd.R_slice HO_8.out
           subst eo36
           have p511 : (0 ≤ (x10_2 : Int)) = True := oT
           have q511 : (x10_2 < (t506.length : Int)) = True := oT
           obtain ⟨ad511, e511, hx511_0⟩ := Kd.at_int (Kd.R_reads' HO_8.out).2.2 x10_2 oa oa
           cases e511
           go_wp2
           go_roundg k2
           case measure => have := HJ7.out; have := HK2.out; omega
           case rel => exact ⟨(wrap64 (x10_2 + 1)), oS, H', ⟨by have := HJ7.out; have := HK2.out; omega⟩, ⟨oR HO_8⟩, ⟨by (with_reducible repeat (first | apply Kd.S_alloc | apply Kd.S_drewN | apply Kd.S_drew)); exact HO_497000.out⟩, ⟨by (with_reducible repeat (first | apply Kd.S_alloc | apply Kd.S_drewN | apply Kd.S_drew)); exact HO_506000.out⟩, ⟨oF BK496⟩, ⟨oF BK505⟩, ⟨oB⟩⟩
          ·rw [if_neg c35] at H
           have c35b0 : ((rd t506 x10_2) == 0) = false := beq_eq_false_iff_ne.mpr c35
           have c35b1 : ((rd t506 x10_2) != 0) = true := bne_iff_ne.mpr c35
           obtain rfl := Option.some.inj H
           obtain ⟨Ao37, co37, eo37⟩ := Kd.R_slice HO_8.out
           subst eo37
           have p511 : (0 ≤ (x10_2 : Int)) = True := oT
           have q511 : (x10_2 < (t506.length : Int)) = True := oT
           obtain ⟨ad511, e511, hx511_0⟩ := Kd.at_int (Kd.R_reads' HO_8.out).2.2 x10_2 oa oa
           cases e511
           go_wp2
           go_ret
           exact ⟨oE, oB⟩
         ·cases H
        ·cases H
       ·obtain rfl := Option.some.inj H
        go_wp2
        go_ret
        exact ⟨oE, oB⟩

/-- THE ONE PURE STATEMENT of laws_FnHoles: yours. -/
def laws_FnHoles.Pure : Prop := ∀ (l0 : List Int), l0.length ≤ maxLen → l0.length * 1 ≤ 140737488351232 → (∀ x ∈ l0, (Lit.int .u8 x).wf = true) → ∃ k, laws_FnHoles.f k l0 = some true
theorem laws_FnHoles.walk (P : laws_FnHoles.Pure) (a0 : Option Addr) (len0 cap0 : Nat) (z0 : List Int) (w : World) (w0 : (a0 = none ∧ len0 = 0 ∧ cap0 = 0 ∧ z0 = []) ∨ ∃ x, a0 = some x ∧ len0 ≤ cap0 ∧ cap0 ≤ maxLen ∧ z0.length = cap0 ∧ (∀ i, i < z0.length → w.cell? (x.add i) = some (.int .u8 (z0.getD i 0))) ∧ ∀ n ∈ z0, (Lit.int .u8 n).wf = true) (y0 : len0 * 1 ≤ 140737488351232) (hG : GOk w) :
  Calls Tryz.prog 4 #[.slice a0 len0 cap0] w fun e w' => e = .returned (.bool true) ∧ Below w.heap.size w w' := by
 obtain ⟨l0, rfl, hr0, hm0, hw0, hc0⟩ := ReadsInt.ofRowC w0
 obtain ⟨k, h⟩ := P l0 hm0 y0 hw0
 refine (laws_FnHoles.calls k _ _ l0 true w (Kd.C_of_reads (d := (0 : Int)) (h1 := fun _ => rfl) hr0) hc0 h hG).mono ?_
 rintro e w' ⟨rfl, hd⟩
 exact ⟨rfl, hd⟩

end Go.Proofs.YtkcfmbggdkkfeaaGreatDoor.P
