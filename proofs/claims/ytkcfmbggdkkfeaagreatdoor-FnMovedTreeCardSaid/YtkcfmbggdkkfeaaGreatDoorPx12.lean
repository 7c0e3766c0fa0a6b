-- By this session's own program (wip/myprint.py) out of the translation; Lean checks it.
import Derived.Test.YtkcfmbggdkkfeaaGreatDoorPx0
import Derived.Test.YtkcfmbggdkkfeaaGreatDoorPx3
import Derived.Test.YtkcfmbggdkkfeaaGreatDoorPx6
import Derived.Test.YtkcfmbggdkkfeaaGreatDoorPx9
import Derived.Test.YtkcfmbggdkkfeaaGreatDoorPx10
import Derived.Test.YtkcfmbggdkkfeaaGreatDoorPx11
namespace Go.Proofs.YtkcfmbggdkkfeaaGreatDoor.P
open Go.RowKit Go.Proofs.YtkcfmbggdkkfeaaGreatDoorW.PrintWords Go.Proofs.YtkcfmbggdkkfeaaGreatDoorW.PrintLast Go.Proofs.YtkcfmbggdkkfeaaGreatDoorW.PrintMore
attribute [local go_sem] max2_int min2_int max_two min_two max_three min_three max_four min_four   -- for this text's walks alone
set_option linter.unusedVariables false
set_option linter.unusedSimpArgs false

/-! ### impl_ReadFile: function 23 -/
def impl_ReadFile.j0 : Nat → ByteArray → Int → Int → Bool → List (S51) → Int → Option (List Int × Int)
 | 0, _, _, _, _, _, _ => none
 | k + 1, x1, x2, x3, x18, x469000, x469001 => if x18 = true then (some (([] : List Int), 1)) else ((impl_Stat.f k x469000 x469001 x1).bind fun bt469 => (if bt469.2.2.2.2.2.2 = 0 then (if bt469.2.1 = 1 then (if 0 ≤ (mn x2 (bt469.2.2.2.1.length : Int)) then (if (mn x2 (bt469.2.2.2.1.length : Int)) ≤ (bt469.2.2.2.1.length : Int) then ((some (bt469.2.2.2.1.drop ((mn x2 (bt469.2.2.2.1.length : Int)) : Int).toNat : List Int)).bind fun y483 => (if 0 ≤ (mn x3 (y483.length : Int)) then (if (mn x3 (y483.length : Int)) ≤ (y483.length : Int) then ((slices_Clone_byte_byte.f (y483.take ((mn x3 (y483.length : Int)) : Int).toNat)).bind fun t491 => (some (t491, 0))) else (none)) else (none))) else (none)) else (none)) else (some (([] : List Int), 3))) else (some (([] : List Int), bt469.2.2.2.2.2.2))))
def impl_ReadFile.f (k : Nat) (l0_0 : List (S51)) (a0_1 : Int) (a1 : ByteArray) (a2 : Int) (a3 : Int) : Option (List Int × Int) := if a2 < 0 then (impl_ReadFile.j0 k a1 a2 a3 true l0_0 a0_1) else (impl_ReadFile.j0 k a1 a2 a3 (decide (a3 < 0)) l0_0 a0_1)
set_option maxHeartbeats 8000000 in
set_option maxRecDepth 100000 in
theorem impl_ReadFile.calls (k : Nat) (A0_0 : Option Addr) (c0_0 : Nat) (l0_0 : List (S51)) (a0_1 : Int) (a1 : ByteArray) (a2 : Int) (a3 : Int) (r1 : List Int) (r2 : Int) (w : World) (hr0_0 : Kd.C k51 w A0_0 l0_0.length l0_0) (hc0_0 : l0_0.length ≤ c0_0) (h : impl_ReadFile.f k l0_0 a0_1 a1 a2 a3 = some (r1, r2)) (hG : GOk w := by exact gk_ oB (by first | (with_reducible assumption) | assumption)) :
  Calls Tryz.prog 23 #[.agg #[.slice A0_0 l0_0.length c0_0, .int .i64 a0_1], .string a1, .int .i64 a2, .int .i64 a3] w fun e w' => ∃ v0_ : Value, e = .returned (.tuple #[v0_, .int .i64 r2]) ∧ Kd.R (Kd.int .u8) 5 w' w.heap.size (fun _ => True) v0_ r1 ∧ Below w.heap.size w w' := by
 have HG := Aside0.mk hG
 clear hG
 have hu26 := Tryz.underlying26
 have hu51 := Tryz.underlying51
 have HR0_0 := Aside0.mk hr0_0
 have HC0_0 := Aside0.mk hc0_0
 clear hr0_0 hc0_0
 have HB := Aside0.mk (Below.refl w.heap.size w)
 unfold impl_ReadFile.f at h
 have H := h
 clear h
 have HC5 := Aside0.mk H
 clear H
 go_enter Tryz.func23, Tryz.ntmps23
 go_upto_region 1 with (first | ((with_reducible refine gate_dst (N := 4) rfl ?_); refine bx_ 4 #[.slice A0_0 l0_0.length c0_0, .int .i64 a0_1] 26 ?_; intro gb468 hg w6 hbox hb; have BK468 := Aside0.mk (hbox); have GW468 := gs_ hg; replace HB := Aside0.mk (below_step oB hb); clear hb hbox hg))
 (try simp only [Act.put, List.setIfInBounds_toArray, List.set_cons_zero, List.set_cons_succ])
 go_cut [18] (fun v18 wc => ∃ (kq : Nat) (x18_4 : Bool), v18 = .bool x18_4 ∧ Aside0 (impl_ReadFile.j0 kq a1 a2 a3 x18_4 l0_0 a0_1 = some (r1, r2)) ∧ Aside0 (kq ≤ k) ∧ Aside0 (wc.heap[gb468]? = some (.cells #[(.slice A0_0 l0_0.length c0_0), .int .i64 a0_1] 26 (0, 0))) ∧ Aside0 (Below w.heap.size w wc))
 case first =>
  have H := HC5.out
  clear HC5
  replace H := itD H
  rcases H with ⟨c7b0, H⟩ | ⟨c7b0, H⟩
  ·(first | rw [c7b0] | rw [c7b2] | (simp only [i64_w, i32_w]; rw [c7b0]) | skip)
   have H' := Aside0.mk H
   clear H
   go_wp2
   go_meet
   case rel => exact ⟨_, (true), oS, H', ⟨by first | omega | exact Nat.le_refl _⟩, ⟨oF BK468⟩, ⟨oB⟩⟩
  ·(first | rw [c7b0] | rw [c7b2] | (simp only [i64_w, i32_w]; rw [c7b0]) | skip)
   have H' := Aside0.mk H
   clear H
   go_wp2
   go_meet
   case rel => exact ⟨_, (decide (a3 < 0)), oS, H', ⟨by first | omega | exact Nat.le_refl _⟩, ⟨oF BK468⟩, ⟨oB⟩⟩
 case rest =>
  clear HC5
  obtain ⟨kq, x18_4, rfl, HA, HJ4, BK468, HB⟩ := hcut
  cases kq with
  | zero => exact absurd HA.out (by simp [impl_ReadFile.j0])
  | succ kj4 =>
   have H := HA.out
   clear HA
   simp only [impl_ReadFile.j0] at H
   replace H := itB H
   rcases H with ⟨rfl, H⟩ | ⟨rfl, H⟩
   ·simp only [Option.some.injEq, Prod.mk.injEq] at H
    obtain ⟨rfl, rfl⟩ := H
    go_wp2
    go_ret2
    exact ⟨_, oE, by first | exact Kd.R_nil _ _ _ _ _ | exact Kd.N_nil _ _ _ _ _ | exact Kd.V_nil _ _ _ _ _ | exact Kd.Q_nil _ _ _ _ _ | exact Kd.S_nil _ _ _ _ _, oB⟩
   ·replace H := bA H
    obtain ⟨⟨t469, t470, t471, t472, t475, t478, t481⟩, A9, H⟩ := H
    try dsimp only at H
    by_cases c10 : t481 = 0
    ·rw [if_pos c10] at H
     have c10b0 : (t481 == 0) = true := beq_iff_eq.mpr c10
     have c10b1 : (t481 != 0) = false := bne_eq_false_iff_eq.mpr c10
     clear c10
     by_cases c11 : t470 = 1
     ·rw [if_pos c11] at H
      have c11b0 : (t470 == 1) = true := beq_iff_eq.mpr c11
      have c11b1 : (t470 != 1) = false := bne_eq_false_iff_eq.mpr c11
      clear c11
      obtain ⟨ji12, hji12⟩ : ∃ j_ : Int, (mn a2 (t472.length : Int)) = j_ := ⟨_, rfl⟩
      replace H : (if 0 ≤ (ji12) then (if (ji12) ≤ (t472.length : Int) then ((some (t472.drop ((ji12) : Int).toNat : List Int)).bind fun y483 => (if 0 ≤ (mn a3 (y483.length : Int)) then (if (mn a3 (y483.length : Int)) ≤ (y483.length : Int) then ((slices_Clone_byte_byte.f (y483.take ((mn a3 (y483.length : Int)) : Int).toNat)).bind fun t491 => (some (t491, 0))) else (none)) else (none))) else (none)) else (none)) = some (r1, r2) := by first | (rw [hji12] at H; exact H) | (simp only [hji12] at H ⊢; exact H)
      (try rw [hji12] at A9)
      have hji12_ : (if (t472.length : Int) < a2 then (t472.length : Int) else a2) = ji12 := hji12
      by_cases c13 : 0 ≤ (ji12)
      ·rw [if_pos c13] at H
       have c13b0 := eq_true c13
       have c13b1 : decide (0 ≤ (ji12)) = true := decide_eq_true c13
       clear c13
       by_cases c14 : (ji12) ≤ (t472.length : Int)
       ·rw [if_pos c14] at H
        have c14b0 := eq_true c14
        have c14b1 : decide ((ji12) ≤ (t472.length : Int)) = true := decide_eq_true c14
        clear c14
        obtain ⟨y483, hy483⟩ : ∃ y_ : List Int, y_ = (t472.drop ((ji12) : Int).toNat) := ⟨_, rfl⟩
        replace H : (if 0 ≤ (mn a3 (y483.length : Int)) then (if (mn a3 (y483.length : Int)) ≤ (y483.length : Int) then ((slices_Clone_byte_byte.f (y483.take ((mn a3 (y483.length : Int)) : Int).toNat)).bind fun t491 => (some (t491, 0))) else (none)) else (none)) = some (r1, r2) := by first | (rw [hy483]; with_reducible exact H) | (have H2_ := (Option.bind_some _ _).symm.trans H; rw [hy483]; with_reducible exact H2_) | (have H2_ := (Option.bind_some _ _).symm.trans H; with_reducible exact H2_) | with_reducible exact H | (rw [hy483]; exact H) | exact H
        have Ny483 := Aside0.mk hy483
        clear hy483
        obtain ⟨ji15, hji15⟩ : ∃ j_ : Int, (mn a3 (y483.length : Int)) = j_ := ⟨_, rfl⟩
        replace H : (if 0 ≤ (ji15) then (if (ji15) ≤ (y483.length : Int) then ((slices_Clone_byte_byte.f (y483.take ((ji15) : Int).toNat)).bind fun t491 => (some (t491, 0))) else (none)) else (none)) = some (r1, r2) := by first | (rw [hji15] at H; exact H) | (simp only [hji15] at H ⊢; exact H)
        (try rw [hji15] at A9)
        have hji15_ : (if (y483.length : Int) < a3 then (y483.length : Int) else a3) = ji15 := hji15
        by_cases c16 : 0 ≤ (ji15)
        ·rw [if_pos c16] at H
         have c16b0 := eq_true c16
         have c16b1 : decide (0 ≤ (ji15)) = true := decide_eq_true c16
         clear c16
         by_cases c17 : (ji15) ≤ (y483.length : Int)
         ·rw [if_pos c17] at H
          have c17b0 := eq_true c17
          have c17b1 : decide ((ji15) ≤ (y483.length : Int)) = true := decide_eq_true c17
          clear c17
          obtain ⟨y487, hy487⟩ : ∃ y_ : List Int, y_ = (y483.take ((ji15) : Int).toNat) := ⟨_, rfl⟩
          replace H : ((slices_Clone_byte_byte.f y487).bind fun t491 => (some (t491, 0))) = some (r1, r2) := by first | (rw [hy487]; with_reducible exact H) | (have H2_ := (Option.bind_some _ _).symm.trans H; rw [hy487]; with_reducible exact H2_) | (have H2_ := (Option.bind_some _ _).symm.trans H; with_reducible exact H2_) | with_reducible exact H | (rw [hy487]; exact H) | exact H
          have Ny487 := Aside0.mk hy487
          clear hy487
          replace H := bA H
          obtain ⟨t491, A18, H⟩ := H
          try dsimp only at H
          simp only [Option.some.injEq, Prod.mk.injEq] at H
          obtain ⟨rfl, rfl⟩ := H
          obtain ⟨⟨_, _⟩, _, _⟩ := z2 BK468
          go_wp2_with (first | ((with_reducible refine gate_callee (f := 28) rfl ?_); refine gl_ 22 Tryz.func28 (impl_Stat.calls kj4 _ _ l0_0 a0_1 a1 t469 t470 t471 t472 t475 t478 t481 _ (kC HR0_0) HC0_0.out A9.out) ?_; rintro e w20 ⟨v473, v476, v479, rfl, ho0, ho1, ho2, hb⟩; refine ⟨_, rfl, ?_⟩; have HO474 := Aside0.mk (Kd.R_lower ho0 (below_size oB)); have HO477 := Aside0.mk (Kd.R_lower ho1 (below_size oB)); have HO480 := Aside0.mk (Kd.R_lower ho2 (below_size oB)); replace BK468 := kb_ BK468 hb; replace HB := Aside0.mk (below_step oB hb); (try clear ho1); (try clear ho2)) | ((with_reducible refine gate_dst (N := 10) rfl ?_); refine bx_ 10 #[.int .i64 0, .int .i64 0, .int .i64 0, .slice none 0 0, .slice none 0 0, .slice none 0 0] 51 ?_; intro gb482 hg w21 hbox hb; have BK482 := Aside0.mk (hbox); have GW482 := gs_ hg; have NB468_482 := nl_ hg BK468; have NB482_468 := nr_ hg BK468; replace HO474 := kr_ HO474 hb; replace HO477 := kr_ HO477 hb; replace HO480 := kr_ HO480 hb; replace BK468 := kb_ BK468 hb; replace HB := Aside0.mk (below_step oB hb); clear hb hbox hg; have hnb22 := NB482_468.out; have hnc22 := NB468_482.out; obtain ⟨⟨_, _, _, _, _, _⟩, _, _, _, _, _, _⟩ := z6 BK482; obtain ⟨Ao24, co24, eo24⟩ := Kd.R_slice HO474.out; subst eo24; obtain ⟨Ao25, co25, eo25⟩ := Kd.R_slice HO477.out; subst eo25; obtain ⟨Ao26, co26, eo26⟩ := Kd.R_slice HO480.out; subst eo26) | ((with_reducible refine gate_store (t := 51) (p := 10) rfl ?_); refine store_event (t := 51) (p := 10) (v := ?vo_w27) (w1 := ((((((w21.setCell ⟨gb482, 0, none⟩ (.int .i64 t469)).setCell ⟨gb482, 1, none⟩ (.int .i64 t470)).setCell ⟨gb482, 2, none⟩ (.int .i64 t471)).setCell ⟨gb482, 3, none⟩ (.slice Ao24 t472.length co24)).setCell ⟨gb482, 4, none⟩ (.slice Ao25 t475.length co25)).setCell ⟨gb482, 5, none⟩ (.slice Ao26 t478.length co26))) ?hg ?ho ?hn ?hr ?_; (case ho => rfl); (case hg => rfl); (case hn => rfl); (case hr => first | (go_simp; done) | (go_simp; rfl)); intro w27 hw; have n0_ : Aside0 (Kd.R (Kd.int .u8) 5 w27 w.heap.size (fun _ => True) (.slice Ao24 t472.length co24) t472) := ⟨(by rw [hw]; exact (by (with_reducible repeat (first | apply Kd.R_alloc | apply Kd.R_drewN | apply Kd.R_drew)); exact Kd.R_mono (Kd.R_far (p := ⟨gb482, 5, none⟩) (Kd.R_far (p := ⟨gb482, 4, none⟩) (Kd.R_far (p := ⟨gb482, 3, none⟩) (Kd.R_far (p := ⟨gb482, 2, none⟩) (Kd.R_far (p := ⟨gb482, 1, none⟩) (Kd.R_far (p := ⟨gb482, 0, none⟩) (Kd.R_types HO474.out BK482.out (by decide)) (fun _ hk => hk.2) (.int .i64 t469)) (fun _ hk => hk.2) (.int .i64 t470)) (fun _ hk => hk.2) (.int .i64 t471)) (fun _ hk => hk.2) (.slice Ao24 t472.length co24)) (fun _ hk => hk.2) (.slice Ao25 t475.length co25)) (fun _ hk => hk.2) (.slice Ao26 t478.length co26)) (fun _ hk => trivial)))⟩; have n1_ : Aside0 (Kd.R k65 65 w27 w.heap.size (fun _ => True) (.slice Ao25 t475.length co25) t475) := ⟨(by rw [hw]; exact (by (with_reducible repeat (first | apply Kd.R_alloc | apply Kd.R_drewN | apply Kd.R_drew)); exact Kd.R_mono (Kd.R_far (p := ⟨gb482, 5, none⟩) (Kd.R_far (p := ⟨gb482, 4, none⟩) (Kd.R_far (p := ⟨gb482, 3, none⟩) (Kd.R_far (p := ⟨gb482, 2, none⟩) (Kd.R_far (p := ⟨gb482, 1, none⟩) (Kd.R_far (p := ⟨gb482, 0, none⟩) (Kd.R_types HO477.out BK482.out (by decide)) (fun _ hk => hk.2) (.int .i64 t469)) (fun _ hk => hk.2) (.int .i64 t470)) (fun _ hk => hk.2) (.int .i64 t471)) (fun _ hk => hk.2) (.slice Ao24 t472.length co24)) (fun _ hk => hk.2) (.slice Ao25 t475.length co25)) (fun _ hk => hk.2) (.slice Ao26 t478.length co26)) (fun _ hk => trivial)))⟩; have n2_ : Aside0 (Kd.R k71 71 w27 w.heap.size (fun _ => True) (.slice Ao26 t478.length co26) t478) := ⟨(by rw [hw]; exact (by (with_reducible repeat (first | apply Kd.R_alloc | apply Kd.R_drewN | apply Kd.R_drew)); exact Kd.R_mono (Kd.R_far (p := ⟨gb482, 5, none⟩) (Kd.R_far (p := ⟨gb482, 4, none⟩) (Kd.R_far (p := ⟨gb482, 3, none⟩) (Kd.R_far (p := ⟨gb482, 2, none⟩) (Kd.R_far (p := ⟨gb482, 1, none⟩) (Kd.R_far (p := ⟨gb482, 0, none⟩) (Kd.R_types HO480.out BK482.out (by decide)) (fun _ hk => hk.2) (.int .i64 t469)) (fun _ hk => hk.2) (.int .i64 t470)) (fun _ hk => hk.2) (.int .i64 t471)) (fun _ hk => hk.2) (.slice Ao24 t472.length co24)) (fun _ hk => hk.2) (.slice Ao25 t475.length co25)) (fun _ hk => hk.2) (.slice Ao26 t478.length co26)) (fun _ hk => trivial)))⟩; have n3_ : Aside0 (w27.heap[gb468]? = some (.cells #[.slice A0_0 l0_0.length c0_0, .int .i64 a0_1] 26 (0, 0))) := ⟨(by rw [hw]; exact (oF BK468))⟩; have n4_ : Aside0 (w27.heap[gb482]? = some (.cells #[.int .i64 t469, .int .i64 t470, .int .i64 t471, .slice Ao24 t472.length co24, .slice Ao25 t475.length co25, .slice Ao26 t478.length co26] 51 (0, 0))) := ⟨(by rw [hw]; exact (oP BK482))⟩; have n5_ : Aside0 (Below w.heap.size w w27) := ⟨(by rw [hw]; exact oB)⟩; clear hw; clear HO474; clear HO477; clear HO480; clear BK468; clear BK482; clear HB; have HO474 := n0_; have HO477 := n1_; have HO480 := n2_; have BK468 := n3_; have BK482 := n4_; have HB := n5_; clear n0_ n1_ n2_ n3_ n4_ n5_; obtain ⟨⟨_, _, _, _, _, _⟩, _, _, _, _, _, _⟩ := z6 BK482; have q29 : ((ji12) : Int) ≤ ((t472.length : Int) : Int) := oa; obtain ⟨i029, hi029, _, hsz29, _⟩ := info_parts info5; have hroom29 : t472.length ≤ co24 := (Kd.R_reads' HO474.out).2.1; have hC29 : Kd.C (Kd.int .u8) _ Ao24 t472.length t472 := (Kd.R_reads' HO474.out).2.2; have q029 : (0 : Int) ≤ ((ji12) : Int) := oa; have hcut29 := cut_from (P := Tryz.prog) 22 5 .i64 Tryz.underlying22 hi029 1 hsz29 Ao24 t472.length co24 (ji12) q029 q29; have hr29 := Kd.C_drop (m := ((ji12) : Int).toNat) (c := co24) hC29 (by omega) hroom29; obtain ⟨A29, hA29⟩ : ∃ A1, A1 = (if co24 = ((ji12) : Int).toNat then Ao24 else (Ao24 : Option Addr).map (·.add (((ji12) : Int).toNat * 1))) := ⟨_, rfl⟩; obtain ⟨c29, hc29⟩ : ∃ c1, c1 = co24 - ((ji12) : Int).toNat := ⟨_, rfl⟩; have hy29 : y483.length = t472.length - ((ji12) : Int).toNat := (by rw [Ny483.out, List.length_drop] <;> omega); rw [show (t472).drop ((ji12) : Int).toNat = y483 from Ny483.out.symm] at hr29; replace hr29 : Kd.C (Kd.int .u8) _ A29 y483.length y483 := (by rw [hA29]; exact hr29); rw [← hy29, ← hA29, ← hc29] at hcut29; have HR486 := Aside0.mk hr29; have HC486 := Aside0.mk (show y483.length ≤ c29 from by rw [hy29, hc29]; exact Nat.sub_le_sub_right hroom29 _); clear hr29 hC29 hroom29 hi029 hsz29 hc29; have KY29 := Aside0.mk hy29; have KA29 := Aside0.mk hA29; clear hy29 hA29; have KL29 := Aside0.mk (show ((ji12) : Int).toNat ≤ t472.length from by omega); replace q29 := eq_true q29; have q30 : ((ji15) : Int) ≤ ((y483.length : Int) : Int) := oa; obtain ⟨i030, hi030, _, hsz30, _⟩ := info_parts info5; have hroom30 : y483.length ≤ c29 := HC486.out; have hC30 : Kd.C (Kd.int .u8) _ A29 y483.length y483 := (by repeat (first | (with_reducible exact HR486.out) | (with_reducible refine Kd.C_alloc ?_ _) | (with_reducible refine Kd.C_drewN ?_ _) | (with_reducible refine Kd.C_drew ?_) | exact HR486.out)); have hcut30 := cut_to (P := Tryz.prog) 22 5 .i64 Tryz.underlying22 hi030 A29 y483.length c29 (ji15) oa q30 hroom30; have hr30 := Kd.C_take (m := ((ji15) : Int).toNat) hC30 (by omega); have hy30 : y487.length = ((ji15) : Int).toNat := (by rw [Ny487.out, List.length_take]; omega); rw [← Ny487.out] at hr30; rw [← hy30] at hcut30; have HR490 := Aside0.mk hr30; have HC490 := Aside0.mk (show y487.length ≤ c29 from by omega); clear hr30 hC30 hroom30 hi030 hsz30; have KY30 := Aside0.mk hy30; clear hy30; replace q30 := eq_true q30) | ((with_reducible refine gate_callee (f := 51) rfl ?_); refine gl_ 45 Tryz.func51 (slices_Clone_byte_byte.calls _ _ y487 t491 _ ?side1 HC490.out A18.out) ?_; (case side1 => repeat (first | exact (by repeat (first | (with_reducible exact HR490.out) | (with_reducible refine Kd.C_alloc ?_ _) | (with_reducible refine Kd.C_drewN ?_ _) | (with_reducible refine Kd.C_drew ?_) | exact HR490.out)) | (with_reducible refine Kd.C_alloc ?_ _) | (with_reducible refine Kd.C_drewN ?_ _) | (with_reducible refine Kd.C_drew ?_))); rintro e w31 ⟨v492, rfl, ho0, hb⟩; refine ⟨_, rfl, ?_⟩; have HO493 := Aside0.mk (Kd.R_lower (Kd.R_new' ho0 (kl_ HO474)) (below_size oB)); replace HO474 := ke_ HO474 ho0 hb; replace HO477 := kr_ HO477 hb; replace HO480 := kr_ HO480 hb; replace BK468 := kb_ BK468 hb; replace BK482 := kb_ BK482 hb; replace HR486 := Aside0.mk (Kd.C_below (by repeat (first | (with_reducible exact HR486.out) | (with_reducible refine Kd.C_alloc ?_ _) | (with_reducible refine Kd.C_drewN ?_ _) | (with_reducible refine Kd.C_drew ?_) | exact HR486.out)) hb); replace HR490 := Aside0.mk (Kd.C_below (by repeat (first | (with_reducible exact HR490.out) | (with_reducible refine Kd.C_alloc ?_ _) | (with_reducible refine Kd.C_drewN ?_ _) | (with_reducible refine Kd.C_drew ?_) | exact HR490.out)) hb); replace HB := Aside0.mk (below_step oB hb)))
          go_ret2
          exact ⟨_, by first | rfl | (simp [errW_none, errW_some] <;> rfl) | (simp only [← hji12, ← hji15]; first | rfl | (simp [errW_none, errW_some] <;> rfl)) | (simp [*, errW_none, errW_some] <;> rfl), by (with_reducible repeat (first | apply Kd.R_alloc | apply Kd.R_drewN | apply Kd.R_drew)); exact Kd.R_mono HO493.out (fun _ hk => trivial), oB⟩
         ·rw [if_neg c17] at H
          exact absurd H (by simp)
        ·rw [if_neg c16] at H
         exact absurd H (by simp)
       ·rw [if_neg c14] at H
        exact absurd H (by simp)
      ·rw [if_neg c13] at H
       exact absurd H (by simp)
     ·rw [if_neg c11] at H
      have c11b0 : (t470 == 1) = false := beq_eq_false_iff_ne.mpr c11
      have c11b1 : (t470 != 1) = true := bne_iff_ne.mpr c11
      simp only [Option.some.injEq, Prod.mk.injEq] at H
      obtain ⟨rfl, rfl⟩ := H
      obtain ⟨⟨_, _⟩, _, _⟩ := z2 BK468
      go_wp2_with (first | ((with_reducible refine gate_callee (f := 28) rfl ?_); refine gl_ 22 Tryz.func28 (impl_Stat.calls kj4 _ _ l0_0 a0_1 a1 t469 t470 t471 t472 t475 t478 t481 _ (kC HR0_0) HC0_0.out A9.out) ?_; rintro e w33 ⟨v473, v476, v479, rfl, ho0, ho1, ho2, hb⟩; refine ⟨_, rfl, ?_⟩; have HO474 := Aside0.mk (Kd.R_lower ho0 (below_size oB)); have HO477 := Aside0.mk (Kd.R_lower ho1 (below_size oB)); have HO480 := Aside0.mk (Kd.R_lower ho2 (below_size oB)); replace BK468 := kb_ BK468 hb; replace HB := Aside0.mk (below_step oB hb); (try clear ho1); (try clear ho2)) | ((with_reducible refine gate_dst (N := 10) rfl ?_); refine bx_ 10 #[.int .i64 0, .int .i64 0, .int .i64 0, .slice none 0 0, .slice none 0 0, .slice none 0 0] 51 ?_; intro gb482 hg w34 hbox hb; have BK482 := Aside0.mk (hbox); have GW482 := gs_ hg; have NB468_482 := nl_ hg BK468; have NB482_468 := nr_ hg BK468; replace HO474 := kr_ HO474 hb; replace HO477 := kr_ HO477 hb; replace HO480 := kr_ HO480 hb; replace BK468 := kb_ BK468 hb; replace HB := Aside0.mk (below_step oB hb); clear hb hbox hg; have hnb35 := NB482_468.out; have hnc35 := NB468_482.out; obtain ⟨⟨_, _, _, _, _, _⟩, _, _, _, _, _, _⟩ := z6 BK482; obtain ⟨Ao37, co37, eo37⟩ := Kd.R_slice HO474.out; subst eo37; obtain ⟨Ao38, co38, eo38⟩ := Kd.R_slice HO477.out; subst eo38; obtain ⟨Ao39, co39, eo39⟩ := Kd.R_slice HO480.out; subst eo39))
      go_ret2
      exact ⟨_, oE, by first | exact Kd.R_nil _ _ _ _ _ | exact Kd.N_nil _ _ _ _ _ | exact Kd.V_nil _ _ _ _ _ | exact Kd.Q_nil _ _ _ _ _ | exact Kd.S_nil _ _ _ _ _, oB⟩
    ·rw [if_neg c10] at H
     have c10b0 : (t481 == 0) = false := beq_eq_false_iff_ne.mpr c10
     have c10b1 : (t481 != 0) = true := bne_iff_ne.mpr c10
     simp only [Option.some.injEq, Prod.mk.injEq] at H
     obtain ⟨rfl, rfl⟩ := H
     obtain ⟨⟨_, _⟩, _, _⟩ := z2 BK468
     go_wp2_with (first | ((with_reducible refine gate_callee (f := 28) rfl ?_); refine gl_ 22 Tryz.func28 (impl_Stat.calls kj4 _ _ l0_0 a0_1 a1 t469 t470 t471 t472 t475 t478 t481 _ (kC HR0_0) HC0_0.out A9.out) ?_; rintro e w41 ⟨v473, v476, v479, rfl, ho0, ho1, ho2, hb⟩; refine ⟨_, rfl, ?_⟩; have HO474 := Aside0.mk (Kd.R_lower ho0 (below_size oB)); have HO477 := Aside0.mk (Kd.R_lower ho1 (below_size oB)); have HO480 := Aside0.mk (Kd.R_lower ho2 (below_size oB)); replace BK468 := kb_ BK468 hb; replace HB := Aside0.mk (below_step oB hb); (try clear ho1); (try clear ho2)) | ((with_reducible refine gate_dst (N := 10) rfl ?_); refine bx_ 10 #[.int .i64 0, .int .i64 0, .int .i64 0, .slice none 0 0, .slice none 0 0, .slice none 0 0] 51 ?_; intro gb482 hg w42 hbox hb; have BK482 := Aside0.mk (hbox); have GW482 := gs_ hg; have NB468_482 := nl_ hg BK468; have NB482_468 := nr_ hg BK468; replace HO474 := kr_ HO474 hb; replace HO477 := kr_ HO477 hb; replace HO480 := kr_ HO480 hb; replace BK468 := kb_ BK468 hb; replace HB := Aside0.mk (below_step oB hb); clear hb hbox hg; have hnb43 := NB482_468.out; have hnc43 := NB468_482.out; obtain ⟨⟨_, _, _, _, _, _⟩, _, _, _, _, _, _⟩ := z6 BK482; obtain ⟨Ao45, co45, eo45⟩ := Kd.R_slice HO474.out; subst eo45; obtain ⟨Ao46, co46, eo46⟩ := Kd.R_slice HO477.out; subst eo46; obtain ⟨Ao47, co47, eo47⟩ := Kd.R_slice HO480.out; subst eo47))
     go_ret2
     exact ⟨_, oE, by first | exact Kd.R_nil _ _ _ _ _ | exact Kd.N_nil _ _ _ _ _ | exact Kd.V_nil _ _ _ _ _ | exact Kd.Q_nil _ _ _ _ _ | exact Kd.S_nil _ _ _ _ _, oB⟩

/-! ### impl_ready: function 46 -/
def impl_ready.l0 : Nat → List ByteArray → Int → Int → List (S51) → Int → Option (Bool)
 | 0, _, _, _, _, _ => none
 | k + 1, x9, x10, x11, x273000, x273001 => if x11 < x10 then (if 0 ≤ x11 then (if x11 < (x9.length : Int) then ((impl_SplitPath.f k (rdOf ByteArray.empty x9 x11)).bind fun bt274 => (if bt274.2 = true then (impl_ready.l0 k x9 x10 (wrap64 (x11 + 1)) x273000 x273001) else (some false))) else (none)) else (none)) else ((impl_TreeOk.f k x273000 x273001).bind fun t278 => (some t278))
def impl_ready.f (k : Nat) (l0_0 : List (S51)) (a0_1 : Int) (l1 : List ByteArray) : Option (Bool) := impl_ready.l0 k l1 (l1.length : Int) 0 l0_0 a0_1
set_option maxHeartbeats 8000000 in
set_option maxRecDepth 100000 in
theorem impl_ready.calls (k : Nat) (A0_0 : Option Addr) (c0_0 : Nat) (l0_0 : List (S51)) (a0_1 : Int) (A1 : Option Addr) (c1 : Nat) (l1 : List ByteArray) (r : Bool) (w : World) (hr0_0 : Kd.C k51 w A0_0 l0_0.length l0_0) (hc0_0 : l0_0.length ≤ c0_0) (hr1 : Kd.C Kd.string w A1 l1.length l1) (hc1 : l1.length ≤ c1) (h : impl_ready.f k l0_0 a0_1 l1 = some r) (hG : GOk w := by exact gk_ oB (by first | (with_reducible assumption) | assumption)) :
  Calls Tryz.prog 46 #[.agg #[.slice A0_0 l0_0.length c0_0, .int .i64 a0_1], .slice A1 l1.length c1] w fun e w' => e = .returned (.bool r) ∧ Below w.heap.size w w' := by
 have HG := Aside0.mk hG
 clear hG
 have hu26 := Tryz.underlying26
 have HR0_0 := Aside0.mk hr0_0
 have HC0_0 := Aside0.mk hc0_0
 clear hr0_0 hc0_0
 have HR1 := Aside0.mk hr1
 have HC1 := Aside0.mk hc1
 clear hr1 hc1
 have HB := Aside0.mk (Below.refl w.heap.size w)
 unfold impl_ready.f at h
 have H := h
 clear h
 have H' := Aside0.mk H
 clear H
 go_enter Tryz.func46, Tryz.ntmps46
 go_wp2_with (first | ((with_reducible refine gate_dst (N := 2) rfl ?_); refine bx_ 2 #[.slice A0_0 l0_0.length c0_0, .int .i64 a0_1] 26 ?_; intro gb272 hg w3 hbox hb; have BK272 := Aside0.mk (hbox); have GW272 := gs_ hg; replace HB := Aside0.mk (below_step oB hb); clear hb hbox hg))
 go_loopg [11] k (fun kq v11 w' => ∃ (x11_1 : Int), v11 = .int .i64 x11_1 ∧ Aside0 (impl_ready.l0 kq l1 (l1.length : Int) x11_1 l0_0 a0_1 = some r) ∧ Aside0 (kq ≤ k) ∧ Aside0 (w'.heap[gb272]? = some (.cells #[(.slice A0_0 l0_0.length c0_0), .int .i64 a0_1] 26 (0, 0))) ∧ Aside0 (Below w.heap.size w w'))
 case atStart => exact ⟨(0), oS, H', ⟨Nat.le_refl _⟩, ⟨oF BK272⟩, ⟨oB⟩⟩
 case round =>
  clear H'
  try clear c1
  obtain ⟨x11_1, rfl, HA, HK1, BK272, HB⟩ := hrel
  cases gk with
  | zero => exact absurd HA.out (by simp [impl_ready.l0])
  | succ k1 =>
   have H := HA.out
   clear HA
   simp only [impl_ready.l0] at H
   replace H := itD H
   rcases H with ⟨c4b0, H⟩ | ⟨c4b0, H⟩
   ·replace H := itD H
    rcases H with ⟨c5b0, H⟩ | ⟨c5b0, H⟩
    ·replace H := itD H
     rcases H with ⟨c6b0, H⟩ | ⟨c6b0, H⟩
     ·replace H := bA H
      obtain ⟨⟨t274, t275⟩, A7, H⟩ := H
      try dsimp only at H
      replace H := itB H
      rcases H with ⟨rfl, H⟩ | ⟨rfl, H⟩
      ·have H' := Aside0.mk H
       clear H
       have p273 : (0 ≤ (x11_1 : Int)) = True := oT
       have q273 : (x11_1 < (l1.length : Int)) = True := oT
       obtain ⟨ad273, e273, hx273_0⟩ := Kd.at_string HR1.out x11_1 oa oa
       cases e273
       replace hx273_0 := cB HB hx273_0
       go_wp2_with (first | ((with_reducible refine gate_callee (f := 16) rfl ?_); refine gl_ 17 Tryz.func16 (impl_SplitPath.calls k1 (rdOf ByteArray.empty l1 x11_1) t274 true _ A7.out) ?_; rintro e w9 ⟨v276, rfl, ho0, hb⟩; refine ⟨_, rfl, ?_⟩; have HO277 := Aside0.mk (Kd.Q_lower ho0 (below_size oB)); replace BK272 := kb_ BK272 hb; replace HB := Aside0.mk (below_step oB hb)))
       go_roundg k1
       case measure => have := HK1.out; omega
       case rel => exact ⟨(wrap64 (x11_1 + 1)), oS, H', ⟨by have := HK1.out; omega⟩, ⟨oF BK272⟩, ⟨oB⟩⟩
      ·obtain rfl := Option.some.inj H
       have p273 : (0 ≤ (x11_1 : Int)) = True := oT
       have q273 : (x11_1 < (l1.length : Int)) = True := oT
       obtain ⟨ad273, e273, hx273_0⟩ := Kd.at_string HR1.out x11_1 oa oa
       cases e273
       replace hx273_0 := cB HB hx273_0
       go_wp2_with (first | ((with_reducible refine gate_callee (f := 16) rfl ?_); refine gl_ 17 Tryz.func16 (impl_SplitPath.calls k1 (rdOf ByteArray.empty l1 x11_1) t274 false _ A7.out) ?_; rintro e w10 ⟨v276, rfl, ho0, hb⟩; refine ⟨_, rfl, ?_⟩; have HO277 := Aside0.mk (Kd.Q_lower ho0 (below_size oB)); replace BK272 := kb_ BK272 hb; replace HB := Aside0.mk (below_step oB hb)))
       go_ret
       exact ⟨oE, oB⟩
     ·cases H
    ·cases H
   ·replace H := bA H
    obtain ⟨t278, A11, H⟩ := H
    try dsimp only at H
    obtain rfl := Option.some.inj H
    obtain ⟨⟨_, _⟩, _, _⟩ := z2 BK272
    go_wp2_with (first | ((with_reducible refine gate_callee (f := 17) rfl ?_); refine gl_ 24 Tryz.func17 (impl_TreeOk.calls k1 _ _ l0_0 a0_1 t278 _ (kC HR0_0) HC0_0.out A11.out) ?_; rintro e w13 ⟨rfl, hb⟩; refine ⟨_, rfl, ?_⟩; replace BK272 := kb_ BK272 hb; replace HB := Aside0.mk (below_step oB hb)))
    go_ret
    exact ⟨oE, oB⟩

/-! ### impl_spotOf: function 57 -/
def impl_spotOf.f (k : Nat) (l0_0 : List (S51)) (a0_1 : Int) (a1 : ByteArray) : Option (Int × Int × Int × List Int × (List (S65)) × (List (S71)) × ByteArray × Int) := (impl_ParentOf.f k a1).bind fun bt338 => ((impl_Stat.f k l0_0 a0_1 bt338.1).bind fun bt341 => (if bt341.2.2.2.2.2.2 = 0 then (if bt341.2.1 = 2 then (some (bt341.1, bt341.2.1, bt341.2.2.1, bt341.2.2.2.1, bt341.2.2.2.2.1, bt341.2.2.2.2.2.1, bt338.2.1, 0)) else (some (0, 0, 0, ([] : List Int), ([] : List (S65)), ([] : List (S71)), (⟨#[]⟩ : ByteArray), 3))) else (some (0, 0, 0, ([] : List Int), ([] : List (S65)), ([] : List (S71)), (⟨#[]⟩ : ByteArray), bt341.2.2.2.2.2.2))))
set_option maxHeartbeats 8000000 in
set_option maxRecDepth 100000 in
theorem impl_spotOf.calls (k : Nat) (A0_0 : Option Addr) (c0_0 : Nat) (l0_0 : List (S51)) (a0_1 : Int) (a1 : ByteArray) (r1 : Int) (r2 : Int) (r3 : Int) (r4 : List Int) (r5 : List (S65)) (r6 : List (S71)) (r7 : ByteArray) (r8 : Int) (w : World) (hr0_0 : Kd.C k51 w A0_0 l0_0.length l0_0) (hc0_0 : l0_0.length ≤ c0_0) (h : impl_spotOf.f k l0_0 a0_1 a1 = some (r1, r2, r3, r4, r5, r6, r7, r8)) (hG : GOk w := by exact gk_ oB (by first | (with_reducible assumption) | assumption)) :
  Calls Tryz.prog 57 #[.agg #[.slice A0_0 l0_0.length c0_0, .int .i64 a0_1], .string a1] w fun e w' => ∃ v3_ v4_ v5_ : Value, e = .returned (.tuple #[.agg #[.int .i64 r1, .int .i64 r2, .int .i64 r3, v3_, v4_, v5_, .string r7], .int .i64 r8]) ∧ Kd.R (Kd.int .u8) 5 w' w.heap.size (fun _ => True) v3_ r4 ∧ Kd.R k65 65 w' w.heap.size (fun _ => True) v4_ r5 ∧ Kd.R k71 71 w' w.heap.size (fun _ => True) v5_ r6 ∧ Below w.heap.size w w' := by
 have HG := Aside0.mk hG
 clear hG
 have hu26 := Tryz.underlying26
 have hu84 := Tryz.underlying84
 have hu51 := Tryz.underlying51
 have HR0_0 := Aside0.mk hr0_0
 have HC0_0 := Aside0.mk hc0_0
 clear hr0_0 hc0_0
 have HB := Aside0.mk (Below.refl w.heap.size w)
 unfold impl_spotOf.f at h
 have H := h
 clear h
 replace H := bA H
 obtain ⟨⟨t338, t339, t340⟩, A3, H⟩ := H
 try dsimp only at H
 replace H := bA H
 obtain ⟨⟨t341, t342, t343, t344, t347, t350, t353⟩, A4, H⟩ := H
 try dsimp only at H
 by_cases c5 : t353 = 0
 ·rw [if_pos c5] at H
  have c5b0 : (t353 == 0) = true := beq_iff_eq.mpr c5
  have c5b1 : (t353 != 0) = false := bne_eq_false_iff_eq.mpr c5
  clear c5
  by_cases c6 : t342 = 2
  ·rw [if_pos c6] at H
   have c6b0 : (t342 == 2) = true := beq_iff_eq.mpr c6
   have c6b1 : (t342 != 2) = false := bne_eq_false_iff_eq.mpr c6
   clear c6
   simp only [Option.some.injEq, Prod.mk.injEq] at H
   obtain ⟨rfl, rfl, rfl, rfl, rfl, rfl, rfl, rfl⟩ := H
   go_enter Tryz.func57, Tryz.ntmps57
   go_wp2_with (first | ((with_reducible refine gate_dst (N := 2) rfl ?_); refine bx_ 2 #[.slice A0_0 l0_0.length c0_0, .int .i64 a0_1] 26 ?_; intro gb336 hg w7 hbox hb; have BK336 := Aside0.mk (hbox); have GW336 := gs_ hg; replace HB := Aside0.mk (below_step oB hb); clear hb hbox hg) | ((with_reducible refine gate_dst (N := 4) rfl ?_); refine bx_ 4 #[.int .i64 0, .int .i64 0, .int .i64 0, .slice none 0 0, .slice none 0 0, .slice none 0 0, .string (⟨#[]⟩ : ByteArray)] 84 ?_; intro gb337 hg w8 hbox hb; have BK337 := Aside0.mk (hbox); have GW337 := gs_ hg; have NB336_337 := nl_ hg BK336; have NB337_336 := nr_ hg BK336; replace BK336 := kb_ BK336 hb; replace HB := Aside0.mk (below_step oB hb); clear hb hbox hg) | ((with_reducible refine gate_callee (f := 78) rfl ?_); refine gl_ 13 Tryz.func78 (impl_ParentOf.calls k a1 t338 t339 t340 _ A3.out) ?_; rintro e w9 ⟨rfl, hb⟩; refine ⟨_, rfl, ?_⟩; replace BK336 := kb_ BK336 hb; replace BK337 := kb_ BK337 hb; replace HB := Aside0.mk (below_step oB hb); have hnb10 := NB336_337.out; have hnc10 := NB337_336.out; obtain ⟨⟨_, _⟩, _, _⟩ := z2 BK336) | ((with_reducible refine gate_callee (f := 28) rfl ?_); refine gl_ 20 Tryz.func28 (impl_Stat.calls k _ _ l0_0 a0_1 t338 t341 t342 t343 t344 t347 t350 t353 _ (kC HR0_0) HC0_0.out A4.out) ?_; rintro e w12 ⟨v345, v348, v351, rfl, ho0, ho1, ho2, hb⟩; refine ⟨_, rfl, ?_⟩; have HO346 := Aside0.mk (Kd.R_lower ho0 (below_size oB)); have HO349 := Aside0.mk (Kd.R_lower ho1 (below_size oB)); have HO352 := Aside0.mk (Kd.R_lower ho2 (below_size oB)); replace BK336 := kb_ BK336 hb; replace BK337 := kb_ BK337 hb; replace HB := Aside0.mk (below_step oB hb); (try clear ho1); (try clear ho2)) | ((with_reducible refine gate_dst (N := 9) rfl ?_); refine bx_ 9 #[.int .i64 0, .int .i64 0, .int .i64 0, .slice none 0 0, .slice none 0 0, .slice none 0 0] 51 ?_; intro gb354 hg w13 hbox hb; have BK354 := Aside0.mk (hbox); have GW354 := gs_ hg; have NB336_354 := nl_ hg BK336; have NB354_336 := nr_ hg BK336; have NB337_354 := nl_ hg BK337; have NB354_337 := nr_ hg BK337; replace HO346 := kr_ HO346 hb; replace HO349 := kr_ HO349 hb; replace HO352 := kr_ HO352 hb; replace BK336 := kb_ BK336 hb; replace BK337 := kb_ BK337 hb; replace HB := Aside0.mk (below_step oB hb); clear hb hbox hg; have hnb14 := NB354_336.out; have hnc14 := NB336_354.out; have hnb15 := NB354_337.out; have hnc15 := NB337_354.out; obtain ⟨⟨_, _, _, _, _, _⟩, _, _, _, _, _, _⟩ := z6 BK354; obtain ⟨Ao17, co17, eo17⟩ := Kd.R_slice HO346.out; subst eo17; obtain ⟨Ao18, co18, eo18⟩ := Kd.R_slice HO349.out; subst eo18; obtain ⟨Ao19, co19, eo19⟩ := Kd.R_slice HO352.out; subst eo19; obtain ⟨⟨_, _, _, _, _, _, _⟩, _, _, _, _, _, _, _⟩ := z7 BK337))
   refine bodyPost_ret (results_ct rfl _ _ gb337 84 #[.int .i64 t341, .int .i64 t342, .int .i64 t343, .slice Ao17 t344.length co17, .slice Ao18 t347.length co18, .slice Ao19 t350.length co19, .string t339] (0, 0) _ rfl (oP BK337) Tryz.underlying84 rfl (by kernel_rfl)) rfl ?_
   exact ⟨_, _, _, oE, by (with_reducible repeat (first | apply Kd.R_alloc | apply Kd.R_drewN | apply Kd.R_drew)); exact Kd.R_mono (Kd.R_far (p := ⟨gb337, 6, none⟩) (Kd.R_far (p := ⟨gb337, 5, none⟩) (Kd.R_far (p := ⟨gb337, 4, none⟩) (Kd.R_far (p := ⟨gb337, 3, none⟩) (Kd.R_far (p := ⟨gb337, 2, none⟩) (Kd.R_far (p := ⟨gb337, 1, none⟩) (Kd.R_far (p := ⟨gb337, 0, none⟩) (Kd.R_far (p := ⟨gb354, 5, none⟩) (Kd.R_far (p := ⟨gb354, 4, none⟩) (Kd.R_far (p := ⟨gb354, 3, none⟩) (Kd.R_far (p := ⟨gb354, 2, none⟩) (Kd.R_far (p := ⟨gb354, 1, none⟩) (Kd.R_far (p := ⟨gb354, 0, none⟩) (Kd.R_types (Kd.R_types HO346.out BK354.out (by decide)) BK337.out (by decide)) (fun _ hk => hk.1.2) (.int .i64 t341)) (fun _ hk => hk.1.2) (.int .i64 t342)) (fun _ hk => hk.1.2) (.int .i64 t343)) (fun _ hk => hk.1.2) (.slice Ao17 t344.length co17)) (fun _ hk => hk.1.2) (.slice Ao18 t347.length co18)) (fun _ hk => hk.1.2) (.slice Ao19 t350.length co19)) (fun _ hk => hk.2) (.int .i64 t341)) (fun _ hk => hk.2) (.int .i64 t342)) (fun _ hk => hk.2) (.int .i64 t343)) (fun _ hk => hk.2) (.slice Ao17 t344.length co17)) (fun _ hk => hk.2) (.slice Ao18 t347.length co18)) (fun _ hk => hk.2) (.slice Ao19 t350.length co19)) (fun _ hk => hk.2) (.string t339)) (fun _ hk => trivial), by (with_reducible repeat (first | apply Kd.R_alloc | apply Kd.R_drewN | apply Kd.R_drew)); exact Kd.R_mono (Kd.R_far (p := ⟨gb337, 6, none⟩) (Kd.R_far (p := ⟨gb337, 5, none⟩) (Kd.R_far (p := ⟨gb337, 4, none⟩) (Kd.R_far (p := ⟨gb337, 3, none⟩) (Kd.R_far (p := ⟨gb337, 2, none⟩) (Kd.R_far (p := ⟨gb337, 1, none⟩) (Kd.R_far (p := ⟨gb337, 0, none⟩) (Kd.R_far (p := ⟨gb354, 5, none⟩) (Kd.R_far (p := ⟨gb354, 4, none⟩) (Kd.R_far (p := ⟨gb354, 3, none⟩) (Kd.R_far (p := ⟨gb354, 2, none⟩) (Kd.R_far (p := ⟨gb354, 1, none⟩) (Kd.R_far (p := ⟨gb354, 0, none⟩) (Kd.R_types (Kd.R_types HO349.out BK354.out (by decide)) BK337.out (by decide)) (fun _ hk => hk.1.2) (.int .i64 t341)) (fun _ hk => hk.1.2) (.int .i64 t342)) (fun _ hk => hk.1.2) (.int .i64 t343)) (fun _ hk => hk.1.2) (.slice Ao17 t344.length co17)) (fun _ hk => hk.1.2) (.slice Ao18 t347.length co18)) (fun _ hk => hk.1.2) (.slice Ao19 t350.length co19)) (fun _ hk => hk.2) (.int .i64 t341)) (fun _ hk => hk.2) (.int .i64 t342)) (fun _ hk => hk.2) (.int .i64 t343)) (fun _ hk => hk.2) (.slice Ao17 t344.length co17)) (fun _ hk => hk.2) (.slice Ao18 t347.length co18)) (fun _ hk => hk.2) (.slice Ao19 t350.length co19)) (fun _ hk => hk.2) (.string t339)) (fun _ hk => trivial), by (with_reducible repeat (first | apply Kd.R_alloc | apply Kd.R_drewN | apply Kd.R_drew)); exact Kd.R_mono (Kd.R_far (p := ⟨gb337, 6, none⟩) (Kd.R_far (p := ⟨gb337, 5, none⟩) (Kd.R_far (p := ⟨gb337, 4, none⟩) (Kd.R_far (p := ⟨gb337, 3, none⟩) (Kd.R_far (p := ⟨gb337, 2, none⟩) (Kd.R_far (p := ⟨gb337, 1, none⟩) (Kd.R_far (p := ⟨gb337, 0, none⟩) (Kd.R_far (p := ⟨gb354, 5, none⟩) (Kd.R_far (p := ⟨gb354, 4, none⟩) (Kd.R_far (p := ⟨gb354, 3, none⟩) (Kd.R_far (p := ⟨gb354, 2, none⟩) (Kd.R_far (p := ⟨gb354, 1, none⟩) (Kd.R_far (p := ⟨gb354, 0, none⟩) (Kd.R_types (Kd.R_types HO352.out BK354.out (by decide)) BK337.out (by decide)) (fun _ hk => hk.1.2) (.int .i64 t341)) (fun _ hk => hk.1.2) (.int .i64 t342)) (fun _ hk => hk.1.2) (.int .i64 t343)) (fun _ hk => hk.1.2) (.slice Ao17 t344.length co17)) (fun _ hk => hk.1.2) (.slice Ao18 t347.length co18)) (fun _ hk => hk.1.2) (.slice Ao19 t350.length co19)) (fun _ hk => hk.2) (.int .i64 t341)) (fun _ hk => hk.2) (.int .i64 t342)) (fun _ hk => hk.2) (.int .i64 t343)) (fun _ hk => hk.2) (.slice Ao17 t344.length co17)) (fun _ hk => hk.2) (.slice Ao18 t347.length co18)) (fun _ hk => hk.2) (.slice Ao19 t350.length co19)) (fun _ hk => hk.2) (.string t339)) (fun _ hk => trivial), oB⟩
  ·rw [if_neg c6] at H
   have c6b0 : (t342 == 2) = false := beq_eq_false_iff_ne.mpr c6
   have c6b1 : (t342 != 2) = true := bne_iff_ne.mpr c6
   simp only [Option.some.injEq, Prod.mk.injEq] at H
   obtain ⟨rfl, rfl, rfl, rfl, rfl, rfl, rfl, rfl⟩ := H
   go_enter Tryz.func57, Tryz.ntmps57
   go_wp2_with (first | ((with_reducible refine gate_dst (N := 2) rfl ?_); refine bx_ 2 #[.slice A0_0 l0_0.length c0_0, .int .i64 a0_1] 26 ?_; intro gb336 hg w21 hbox hb; have BK336 := Aside0.mk (hbox); have GW336 := gs_ hg; replace HB := Aside0.mk (below_step oB hb); clear hb hbox hg) | ((with_reducible refine gate_dst (N := 4) rfl ?_); refine bx_ 4 #[.int .i64 0, .int .i64 0, .int .i64 0, .slice none 0 0, .slice none 0 0, .slice none 0 0, .string (⟨#[]⟩ : ByteArray)] 84 ?_; intro gb337 hg w22 hbox hb; have BK337 := Aside0.mk (hbox); have GW337 := gs_ hg; have NB336_337 := nl_ hg BK336; have NB337_336 := nr_ hg BK336; replace BK336 := kb_ BK336 hb; replace HB := Aside0.mk (below_step oB hb); clear hb hbox hg) | ((with_reducible refine gate_callee (f := 78) rfl ?_); refine gl_ 13 Tryz.func78 (impl_ParentOf.calls k a1 t338 t339 t340 _ A3.out) ?_; rintro e w23 ⟨rfl, hb⟩; refine ⟨_, rfl, ?_⟩; replace BK336 := kb_ BK336 hb; replace BK337 := kb_ BK337 hb; replace HB := Aside0.mk (below_step oB hb); have hnb24 := NB336_337.out; have hnc24 := NB337_336.out; obtain ⟨⟨_, _⟩, _, _⟩ := z2 BK336) | ((with_reducible refine gate_callee (f := 28) rfl ?_); refine gl_ 20 Tryz.func28 (impl_Stat.calls k _ _ l0_0 a0_1 t338 t341 t342 t343 t344 t347 t350 t353 _ (kC HR0_0) HC0_0.out A4.out) ?_; rintro e w26 ⟨v345, v348, v351, rfl, ho0, ho1, ho2, hb⟩; refine ⟨_, rfl, ?_⟩; have HO346 := Aside0.mk (Kd.R_lower ho0 (below_size oB)); have HO349 := Aside0.mk (Kd.R_lower ho1 (below_size oB)); have HO352 := Aside0.mk (Kd.R_lower ho2 (below_size oB)); replace BK336 := kb_ BK336 hb; replace BK337 := kb_ BK337 hb; replace HB := Aside0.mk (below_step oB hb); (try clear ho1); (try clear ho2)) | ((with_reducible refine gate_dst (N := 9) rfl ?_); refine bx_ 9 #[.int .i64 0, .int .i64 0, .int .i64 0, .slice none 0 0, .slice none 0 0, .slice none 0 0] 51 ?_; intro gb354 hg w27 hbox hb; have BK354 := Aside0.mk (hbox); have GW354 := gs_ hg; have NB336_354 := nl_ hg BK336; have NB354_336 := nr_ hg BK336; have NB337_354 := nl_ hg BK337; have NB354_337 := nr_ hg BK337; replace HO346 := kr_ HO346 hb; replace HO349 := kr_ HO349 hb; replace HO352 := kr_ HO352 hb; replace BK336 := kb_ BK336 hb; replace BK337 := kb_ BK337 hb; replace HB := Aside0.mk (below_step oB hb); clear hb hbox hg; have hnb28 := NB354_336.out; have hnc28 := NB336_354.out; have hnb29 := NB354_337.out; have hnc29 := NB337_354.out; obtain ⟨⟨_, _, _, _, _, _⟩, _, _, _, _, _, _⟩ := z6 BK354; obtain ⟨Ao31, co31, eo31⟩ := Kd.R_slice HO346.out; subst eo31; obtain ⟨Ao32, co32, eo32⟩ := Kd.R_slice HO349.out; subst eo32; obtain ⟨Ao33, co33, eo33⟩ := Kd.R_slice HO352.out; subst eo33; obtain ⟨⟨_, _, _, _, _, _, _⟩, _, _, _, _, _, _, _⟩ := z7 BK337))
   refine bodyPost_ret (results_ct rfl _ _ gb337 84 #[.int .i64 0, .int .i64 0, .int .i64 0, .slice none 0 0, .slice none 0 0, .slice none 0 0, .string (⟨#[]⟩ : ByteArray)] (0, 0) _ rfl (oP BK337) Tryz.underlying84 rfl (by kernel_rfl)) rfl ?_
   exact ⟨_, _, _, oE, by first | exact Kd.R_nil _ _ _ _ _ | exact Kd.N_nil _ _ _ _ _ | exact Kd.V_nil _ _ _ _ _ | exact Kd.Q_nil _ _ _ _ _ | exact Kd.S_nil _ _ _ _ _, by first | exact Kd.R_nil _ _ _ _ _ | exact Kd.N_nil _ _ _ _ _ | exact Kd.V_nil _ _ _ _ _ | exact Kd.Q_nil _ _ _ _ _ | exact Kd.S_nil _ _ _ _ _, by first | exact Kd.R_nil _ _ _ _ _ | exact Kd.N_nil _ _ _ _ _ | exact Kd.V_nil _ _ _ _ _ | exact Kd.Q_nil _ _ _ _ _ | exact Kd.S_nil _ _ _ _ _, oB⟩
 ·rw [if_neg c5] at H
  have c5b0 : (t353 == 0) = false := beq_eq_false_iff_ne.mpr c5
  have c5b1 : (t353 != 0) = true := bne_iff_ne.mpr c5
  simp only [Option.some.injEq, Prod.mk.injEq] at H
  obtain ⟨rfl, rfl, rfl, rfl, rfl, rfl, rfl, rfl⟩ := H
  go_enter Tryz.func57, Tryz.ntmps57
  go_wp2_with (first | ((with_reducible refine gate_dst (N := 2) rfl ?_); refine bx_ 2 #[.slice A0_0 l0_0.length c0_0, .int .i64 a0_1] 26 ?_; intro gb336 hg w35 hbox hb; have BK336 := Aside0.mk (hbox); have GW336 := gs_ hg; replace HB := Aside0.mk (below_step oB hb); clear hb hbox hg) | ((with_reducible refine gate_dst (N := 4) rfl ?_); refine bx_ 4 #[.int .i64 0, .int .i64 0, .int .i64 0, .slice none 0 0, .slice none 0 0, .slice none 0 0, .string (⟨#[]⟩ : ByteArray)] 84 ?_; intro gb337 hg w36 hbox hb; have BK337 := Aside0.mk (hbox); have GW337 := gs_ hg; have NB336_337 := nl_ hg BK336; have NB337_336 := nr_ hg BK336; replace BK336 := kb_ BK336 hb; replace HB := Aside0.mk (below_step oB hb); clear hb hbox hg) | ((with_reducible refine gate_callee (f := 78) rfl ?_); refine gl_ 13 Tryz.func78 (impl_ParentOf.calls k a1 t338 t339 t340 _ A3.out) ?_; rintro e w37 ⟨rfl, hb⟩; refine ⟨_, rfl, ?_⟩; replace BK336 := kb_ BK336 hb; replace BK337 := kb_ BK337 hb; replace HB := Aside0.mk (below_step oB hb); have hnb38 := NB336_337.out; have hnc38 := NB337_336.out; obtain ⟨⟨_, _⟩, _, _⟩ := z2 BK336) | ((with_reducible refine gate_callee (f := 28) rfl ?_); refine gl_ 20 Tryz.func28 (impl_Stat.calls k _ _ l0_0 a0_1 t338 t341 t342 t343 t344 t347 t350 t353 _ (kC HR0_0) HC0_0.out A4.out) ?_; rintro e w40 ⟨v345, v348, v351, rfl, ho0, ho1, ho2, hb⟩; refine ⟨_, rfl, ?_⟩; have HO346 := Aside0.mk (Kd.R_lower ho0 (below_size oB)); have HO349 := Aside0.mk (Kd.R_lower ho1 (below_size oB)); have HO352 := Aside0.mk (Kd.R_lower ho2 (below_size oB)); replace BK336 := kb_ BK336 hb; replace BK337 := kb_ BK337 hb; replace HB := Aside0.mk (below_step oB hb); (try clear ho1); (try clear ho2)) | ((with_reducible refine gate_dst (N := 9) rfl ?_); refine bx_ 9 #[.int .i64 0, .int .i64 0, .int .i64 0, .slice none 0 0, .slice none 0 0, .slice none 0 0] 51 ?_; intro gb354 hg w41 hbox hb; have BK354 := Aside0.mk (hbox); have GW354 := gs_ hg; have NB336_354 := nl_ hg BK336; have NB354_336 := nr_ hg BK336; have NB337_354 := nl_ hg BK337; have NB354_337 := nr_ hg BK337; replace HO346 := kr_ HO346 hb; replace HO349 := kr_ HO349 hb; replace HO352 := kr_ HO352 hb; replace BK336 := kb_ BK336 hb; replace BK337 := kb_ BK337 hb; replace HB := Aside0.mk (below_step oB hb); clear hb hbox hg; have hnb42 := NB354_336.out; have hnc42 := NB336_354.out; have hnb43 := NB354_337.out; have hnc43 := NB337_354.out; obtain ⟨⟨_, _, _, _, _, _⟩, _, _, _, _, _, _⟩ := z6 BK354; obtain ⟨Ao45, co45, eo45⟩ := Kd.R_slice HO346.out; subst eo45; obtain ⟨Ao46, co46, eo46⟩ := Kd.R_slice HO349.out; subst eo46; obtain ⟨Ao47, co47, eo47⟩ := Kd.R_slice HO352.out; subst eo47; obtain ⟨⟨_, _, _, _, _, _, _⟩, _, _, _, _, _, _, _⟩ := z7 BK337))
  refine bodyPost_ret (results_ct rfl _ _ gb337 84 #[.int .i64 0, .int .i64 0, .int .i64 0, .slice none 0 0, .slice none 0 0, .slice none 0 0, .string (⟨#[]⟩ : ByteArray)] (0, 0) _ rfl (oP BK337) Tryz.underlying84 rfl (by kernel_rfl)) rfl ?_
  exact ⟨_, _, _, oE, by first | exact Kd.R_nil _ _ _ _ _ | exact Kd.N_nil _ _ _ _ _ | exact Kd.V_nil _ _ _ _ _ | exact Kd.Q_nil _ _ _ _ _ | exact Kd.S_nil _ _ _ _ _, by first | exact Kd.R_nil _ _ _ _ _ | exact Kd.N_nil _ _ _ _ _ | exact Kd.V_nil _ _ _ _ _ | exact Kd.Q_nil _ _ _ _ _ | exact Kd.S_nil _ _ _ _ _, by first | exact Kd.R_nil _ _ _ _ _ | exact Kd.N_nil _ _ _ _ _ | exact Kd.V_nil _ _ _ _ _ | exact Kd.Q_nil _ _ _ _ _ | exact Kd.S_nil _ _ _ _ _, oB⟩

/-! ### impl_fileAt: function 48 -/
def impl_fileAt.f (k : Nat) (l0_0 : List (S51)) (a0_1 : Int) (a1 : ByteArray) : Option (Int × Int × Int × List Int × (List (S65)) × (List (S71)) × Int) := (impl_Stat.f k l0_0 a0_1 a1).bind fun bt410 => (if bt410.2.2.2.2.2.2 = 0 then (if bt410.2.1 = 1 then (some (bt410.1, bt410.2.1, bt410.2.2.1, bt410.2.2.2.1, bt410.2.2.2.2.1, bt410.2.2.2.2.2.1, bt410.2.2.2.2.2.2)) else (some (bt410.1, bt410.2.1, bt410.2.2.1, bt410.2.2.2.1, bt410.2.2.2.2.1, bt410.2.2.2.2.2.1, 3))) else (some (bt410.1, bt410.2.1, bt410.2.2.1, bt410.2.2.2.1, bt410.2.2.2.2.1, bt410.2.2.2.2.2.1, bt410.2.2.2.2.2.2)))
set_option maxHeartbeats 8000000 in
set_option maxRecDepth 100000 in
theorem impl_fileAt.calls (k : Nat) (A0_0 : Option Addr) (c0_0 : Nat) (l0_0 : List (S51)) (a0_1 : Int) (a1 : ByteArray) (r1 : Int) (r2 : Int) (r3 : Int) (r4 : List Int) (r5 : List (S65)) (r6 : List (S71)) (r7 : Int) (w : World) (hr0_0 : Kd.C k51 w A0_0 l0_0.length l0_0) (hc0_0 : l0_0.length ≤ c0_0) (h : impl_fileAt.f k l0_0 a0_1 a1 = some (r1, r2, r3, r4, r5, r6, r7)) (hG : GOk w := by exact gk_ oB (by first | (with_reducible assumption) | assumption)) :
  Calls Tryz.prog 48 #[.agg #[.slice A0_0 l0_0.length c0_0, .int .i64 a0_1], .string a1] w fun e w' => ∃ v3_ v4_ v5_ : Value, e = .returned (.tuple #[.agg #[.int .i64 r1, .int .i64 r2, .int .i64 r3, v3_, v4_, v5_], .int .i64 r7]) ∧ Kd.R (Kd.int .u8) 5 w' w.heap.size (fun _ => True) v3_ r4 ∧ Kd.R k65 65 w' w.heap.size (fun _ => True) v4_ r5 ∧ Kd.R k71 71 w' w.heap.size (fun _ => True) v5_ r6 ∧ Below w.heap.size w w' := by
 have HG := Aside0.mk hG
 clear hG
 have hu26 := Tryz.underlying26
 have hu51 := Tryz.underlying51
 have HR0_0 := Aside0.mk hr0_0
 have HC0_0 := Aside0.mk hc0_0
 clear hr0_0 hc0_0
 have HB := Aside0.mk (Below.refl w.heap.size w)
 unfold impl_fileAt.f at h
 have H := h
 clear h
 replace H := bA H
 obtain ⟨⟨t410, t411, t412, t413, t416, t419, t422⟩, A3, H⟩ := H
 try dsimp only at H
 by_cases c4 : t422 = 0
 ·rw [if_pos c4] at H
  have c4b0 : (t422 == 0) = true := beq_iff_eq.mpr c4
  have c4b1 : (t422 != 0) = false := bne_eq_false_iff_eq.mpr c4
  clear c4
  by_cases c5 : t411 = 1
  ·rw [if_pos c5] at H
   have c5b0 : (t411 == 1) = true := beq_iff_eq.mpr c5
   have c5b1 : (t411 != 1) = false := bne_eq_false_iff_eq.mpr c5
   clear c5
   simp only [Option.some.injEq, Prod.mk.injEq] at H
   obtain ⟨rfl, rfl, rfl, rfl, rfl, rfl, rfl⟩ := H
   go_enter Tryz.func48, Tryz.ntmps48
   go_wp2_with (first | ((with_reducible refine gate_dst (N := 2) rfl ?_); refine bx_ 2 #[.slice A0_0 l0_0.length c0_0, .int .i64 a0_1] 26 ?_; intro gb408 hg w6 hbox hb; have BK408 := Aside0.mk (hbox); have GW408 := gs_ hg; replace HB := Aside0.mk (below_step oB hb); clear hb hbox hg) | ((with_reducible refine gate_dst (N := 4) rfl ?_); refine bx_ 4 #[.int .i64 0, .int .i64 0, .int .i64 0, .slice none 0 0, .slice none 0 0, .slice none 0 0] 51 ?_; intro gb409 hg w7 hbox hb; have BK409 := Aside0.mk (hbox); have GW409 := gs_ hg; have NB408_409 := nl_ hg BK408; have NB409_408 := nr_ hg BK408; replace BK408 := kb_ BK408 hb; replace HB := Aside0.mk (below_step oB hb); clear hb hbox hg; have hnb8 := NB408_409.out; have hnc8 := NB409_408.out; obtain ⟨⟨_, _⟩, _, _⟩ := z2 BK408) | ((with_reducible refine gate_callee (f := 28) rfl ?_); refine gl_ 11 Tryz.func28 (impl_Stat.calls k _ _ l0_0 a0_1 a1 t410 t411 t412 t413 t416 t419 t422 _ (kC HR0_0) HC0_0.out A3.out) ?_; rintro e w10 ⟨v414, v417, v420, rfl, ho0, ho1, ho2, hb⟩; refine ⟨_, rfl, ?_⟩; have HO415 := Aside0.mk (Kd.R_lower ho0 (below_size oB)); have HO418 := Aside0.mk (Kd.R_lower ho1 (below_size oB)); have HO421 := Aside0.mk (Kd.R_lower ho2 (below_size oB)); replace BK408 := kb_ BK408 hb; replace BK409 := kb_ BK409 hb; replace HB := Aside0.mk (below_step oB hb); (try clear ho1); (try clear ho2)) | ((with_reducible refine gate_dst (N := 6) rfl ?_); refine bx_ 6 #[.int .i64 0, .int .i64 0, .int .i64 0, .slice none 0 0, .slice none 0 0, .slice none 0 0] 51 ?_; intro gb423 hg w11 hbox hb; have BK423 := Aside0.mk (hbox); have GW423 := gs_ hg; have NB408_423 := nl_ hg BK408; have NB423_408 := nr_ hg BK408; have NB409_423 := nl_ hg BK409; have NB423_409 := nr_ hg BK409; replace HO415 := kr_ HO415 hb; replace HO418 := kr_ HO418 hb; replace HO421 := kr_ HO421 hb; replace BK408 := kb_ BK408 hb; replace BK409 := kb_ BK409 hb; replace HB := Aside0.mk (below_step oB hb); clear hb hbox hg; have hnb12 := NB423_408.out; have hnc12 := NB408_423.out; have hnb13 := NB423_409.out; have hnc13 := NB409_423.out; obtain ⟨⟨_, _, _, _, _, _⟩, _, _, _, _, _, _⟩ := z6 BK423; obtain ⟨Ao15, co15, eo15⟩ := Kd.R_slice HO415.out; subst eo15; obtain ⟨Ao16, co16, eo16⟩ := Kd.R_slice HO418.out; subst eo16; obtain ⟨Ao17, co17, eo17⟩ := Kd.R_slice HO421.out; subst eo17; obtain ⟨⟨_, _, _, _, _, _⟩, _, _, _, _, _, _⟩ := z6 BK409))
   refine bodyPost_ret (results_ct rfl _ _ gb409 51 #[.int .i64 t410, .int .i64 t411, .int .i64 t412, .slice Ao15 t413.length co15, .slice Ao16 t416.length co16, .slice Ao17 t419.length co17] (0, 0) _ rfl (oP BK409) Tryz.underlying51 rfl (by kernel_rfl)) rfl ?_
   exact ⟨_, _, _, oE, by (with_reducible repeat (first | apply Kd.R_alloc | apply Kd.R_drewN | apply Kd.R_drew)); exact Kd.R_mono (Kd.R_far (p := ⟨gb409, 5, none⟩) (Kd.R_far (p := ⟨gb409, 4, none⟩) (Kd.R_far (p := ⟨gb409, 3, none⟩) (Kd.R_far (p := ⟨gb409, 2, none⟩) (Kd.R_far (p := ⟨gb409, 1, none⟩) (Kd.R_far (p := ⟨gb409, 0, none⟩) (Kd.R_far (p := ⟨gb423, 5, none⟩) (Kd.R_far (p := ⟨gb423, 4, none⟩) (Kd.R_far (p := ⟨gb423, 3, none⟩) (Kd.R_far (p := ⟨gb423, 2, none⟩) (Kd.R_far (p := ⟨gb423, 1, none⟩) (Kd.R_far (p := ⟨gb423, 0, none⟩) (Kd.R_types (Kd.R_types HO415.out BK423.out (by decide)) BK409.out (by decide)) (fun _ hk => hk.1.2) (.int .i64 t410)) (fun _ hk => hk.1.2) (.int .i64 t411)) (fun _ hk => hk.1.2) (.int .i64 t412)) (fun _ hk => hk.1.2) (.slice Ao15 t413.length co15)) (fun _ hk => hk.1.2) (.slice Ao16 t416.length co16)) (fun _ hk => hk.1.2) (.slice Ao17 t419.length co17)) (fun _ hk => hk.2) (.int .i64 t410)) (fun _ hk => hk.2) (.int .i64 t411)) (fun _ hk => hk.2) (.int .i64 t412)) (fun _ hk => hk.2) (.slice Ao15 t413.length co15)) (fun _ hk => hk.2) (.slice Ao16 t416.length co16)) (fun _ hk => hk.2) (.slice Ao17 t419.length co17)) (fun _ hk => trivial), by (with_reducible repeat (first | apply Kd.R_alloc | apply Kd.R_drewN | apply Kd.R_drew)); exact Kd.R_mono (Kd.R_far (p := ⟨gb409, 5, none⟩) (Kd.R_far (p := ⟨gb409, 4, none⟩) (Kd.R_far (p := ⟨gb409, 3, none⟩) (Kd.R_far (p := ⟨gb409, 2, none⟩) (Kd.R_far (p := ⟨gb409, 1, none⟩) (Kd.R_far (p := ⟨gb409, 0, none⟩) (Kd.R_far (p := ⟨gb423, 5, none⟩) (Kd.R_far (p := ⟨gb423, 4, none⟩) (Kd.R_far (p := ⟨gb423, 3, none⟩) (Kd.R_far (p := ⟨gb423, 2, none⟩) (Kd.R_far (p := ⟨gb423, 1, none⟩) (Kd.R_far (p := ⟨gb423, 0, none⟩) (Kd.R_types (Kd.R_types HO418.out BK423.out (by decide)) BK409.out (by decide)) (fun _ hk => hk.1.2) (.int .i64 t410)) (fun _ hk => hk.1.2) (.int .i64 t411)) (fun _ hk => hk.1.2) (.int .i64 t412)) (fun _ hk => hk.1.2) (.slice Ao15 t413.length co15)) (fun _ hk => hk.1.2) (.slice Ao16 t416.length co16)) (fun _ hk => hk.1.2) (.slice Ao17 t419.length co17)) (fun _ hk => hk.2) (.int .i64 t410)) (fun _ hk => hk.2) (.int .i64 t411)) (fun _ hk => hk.2) (.int .i64 t412)) (fun _ hk => hk.2) (.slice Ao15 t413.length co15)) (fun _ hk => hk.2) (.slice Ao16 t416.length co16)) (fun _ hk => hk.2) (.slice Ao17 t419.length co17)) (fun _ hk => trivial), by (with_reducible repeat (first | apply Kd.R_alloc | apply Kd.R_drewN | apply Kd.R_drew)); exact Kd.R_mono (Kd.R_far (p := ⟨gb409, 5, none⟩) (Kd.R_far (p := ⟨gb409, 4, none⟩) (Kd.R_far (p := ⟨gb409, 3, none⟩) (Kd.R_far (p := ⟨gb409, 2, none⟩) (Kd.R_far (p := ⟨gb409, 1, none⟩) (Kd.R_far (p := ⟨gb409, 0, none⟩) (Kd.R_far (p := ⟨gb423, 5, none⟩) (Kd.R_far (p := ⟨gb423, 4, none⟩) (Kd.R_far (p := ⟨gb423, 3, none⟩) (Kd.R_far (p := ⟨gb423, 2, none⟩) (Kd.R_far (p := ⟨gb423, 1, none⟩) (Kd.R_far (p := ⟨gb423, 0, none⟩) (Kd.R_types (Kd.R_types HO421.out BK423.out (by decide)) BK409.out (by decide)) (fun _ hk => hk.1.2) (.int .i64 t410)) (fun _ hk => hk.1.2) (.int .i64 t411)) (fun _ hk => hk.1.2) (.int .i64 t412)) (fun _ hk => hk.1.2) (.slice Ao15 t413.length co15)) (fun _ hk => hk.1.2) (.slice Ao16 t416.length co16)) (fun _ hk => hk.1.2) (.slice Ao17 t419.length co17)) (fun _ hk => hk.2) (.int .i64 t410)) (fun _ hk => hk.2) (.int .i64 t411)) (fun _ hk => hk.2) (.int .i64 t412)) (fun _ hk => hk.2) (.slice Ao15 t413.length co15)) (fun _ hk => hk.2) (.slice Ao16 t416.length co16)) (fun _ hk => hk.2) (.slice Ao17 t419.length co17)) (fun _ hk => trivial), oB⟩
  ·rw [if_neg c5] at H
   have c5b0 : (t411 == 1) = false := beq_eq_false_iff_ne.mpr c5
   have c5b1 : (t411 != 1) = true := bne_iff_ne.mpr c5
   simp only [Option.some.injEq, Prod.mk.injEq] at H
   obtain ⟨rfl, rfl, rfl, rfl, rfl, rfl, rfl⟩ := H
   go_enter Tryz.func48, Tryz.ntmps48
   go_wp2_with (first | ((with_reducible refine gate_dst (N := 2) rfl ?_); refine bx_ 2 #[.slice A0_0 l0_0.length c0_0, .int .i64 a0_1] 26 ?_; intro gb408 hg w19 hbox hb; have BK408 := Aside0.mk (hbox); have GW408 := gs_ hg; replace HB := Aside0.mk (below_step oB hb); clear hb hbox hg) | ((with_reducible refine gate_dst (N := 4) rfl ?_); refine bx_ 4 #[.int .i64 0, .int .i64 0, .int .i64 0, .slice none 0 0, .slice none 0 0, .slice none 0 0] 51 ?_; intro gb409 hg w20 hbox hb; have BK409 := Aside0.mk (hbox); have GW409 := gs_ hg; have NB408_409 := nl_ hg BK408; have NB409_408 := nr_ hg BK408; replace BK408 := kb_ BK408 hb; replace HB := Aside0.mk (below_step oB hb); clear hb hbox hg; have hnb21 := NB408_409.out; have hnc21 := NB409_408.out; obtain ⟨⟨_, _⟩, _, _⟩ := z2 BK408) | ((with_reducible refine gate_callee (f := 28) rfl ?_); refine gl_ 11 Tryz.func28 (impl_Stat.calls k _ _ l0_0 a0_1 a1 t410 t411 t412 t413 t416 t419 t422 _ (kC HR0_0) HC0_0.out A3.out) ?_; rintro e w23 ⟨v414, v417, v420, rfl, ho0, ho1, ho2, hb⟩; refine ⟨_, rfl, ?_⟩; have HO415 := Aside0.mk (Kd.R_lower ho0 (below_size oB)); have HO418 := Aside0.mk (Kd.R_lower ho1 (below_size oB)); have HO421 := Aside0.mk (Kd.R_lower ho2 (below_size oB)); replace BK408 := kb_ BK408 hb; replace BK409 := kb_ BK409 hb; replace HB := Aside0.mk (below_step oB hb); (try clear ho1); (try clear ho2)) | ((with_reducible refine gate_dst (N := 6) rfl ?_); refine bx_ 6 #[.int .i64 0, .int .i64 0, .int .i64 0, .slice none 0 0, .slice none 0 0, .slice none 0 0] 51 ?_; intro gb423 hg w24 hbox hb; have BK423 := Aside0.mk (hbox); have GW423 := gs_ hg; have NB408_423 := nl_ hg BK408; have NB423_408 := nr_ hg BK408; have NB409_423 := nl_ hg BK409; have NB423_409 := nr_ hg BK409; replace HO415 := kr_ HO415 hb; replace HO418 := kr_ HO418 hb; replace HO421 := kr_ HO421 hb; replace BK408 := kb_ BK408 hb; replace BK409 := kb_ BK409 hb; replace HB := Aside0.mk (below_step oB hb); clear hb hbox hg; have hnb25 := NB423_408.out; have hnc25 := NB408_423.out; have hnb26 := NB423_409.out; have hnc26 := NB409_423.out; obtain ⟨⟨_, _, _, _, _, _⟩, _, _, _, _, _, _⟩ := z6 BK423; obtain ⟨Ao28, co28, eo28⟩ := Kd.R_slice HO415.out; subst eo28; obtain ⟨Ao29, co29, eo29⟩ := Kd.R_slice HO418.out; subst eo29; obtain ⟨Ao30, co30, eo30⟩ := Kd.R_slice HO421.out; subst eo30; obtain ⟨⟨_, _, _, _, _, _⟩, _, _, _, _, _, _⟩ := z6 BK409))
   refine bodyPost_ret (results_ct rfl _ _ gb409 51 #[.int .i64 t410, .int .i64 t411, .int .i64 t412, .slice Ao28 t413.length co28, .slice Ao29 t416.length co29, .slice Ao30 t419.length co30] (0, 0) _ rfl (oP BK409) Tryz.underlying51 rfl (by kernel_rfl)) rfl ?_
   exact ⟨_, _, _, oE, by (with_reducible repeat (first | apply Kd.R_alloc | apply Kd.R_drewN | apply Kd.R_drew)); exact Kd.R_mono (Kd.R_far (p := ⟨gb409, 5, none⟩) (Kd.R_far (p := ⟨gb409, 4, none⟩) (Kd.R_far (p := ⟨gb409, 3, none⟩) (Kd.R_far (p := ⟨gb409, 2, none⟩) (Kd.R_far (p := ⟨gb409, 1, none⟩) (Kd.R_far (p := ⟨gb409, 0, none⟩) (Kd.R_far (p := ⟨gb423, 5, none⟩) (Kd.R_far (p := ⟨gb423, 4, none⟩) (Kd.R_far (p := ⟨gb423, 3, none⟩) (Kd.R_far (p := ⟨gb423, 2, none⟩) (Kd.R_far (p := ⟨gb423, 1, none⟩) (Kd.R_far (p := ⟨gb423, 0, none⟩) (Kd.R_types (Kd.R_types HO415.out BK423.out (by decide)) BK409.out (by decide)) (fun _ hk => hk.1.2) (.int .i64 t410)) (fun _ hk => hk.1.2) (.int .i64 t411)) (fun _ hk => hk.1.2) (.int .i64 t412)) (fun _ hk => hk.1.2) (.slice Ao28 t413.length co28)) (fun _ hk => hk.1.2) (.slice Ao29 t416.length co29)) (fun _ hk => hk.1.2) (.slice Ao30 t419.length co30)) (fun _ hk => hk.2) (.int .i64 t410)) (fun _ hk => hk.2) (.int .i64 t411)) (fun _ hk => hk.2) (.int .i64 t412)) (fun _ hk => hk.2) (.slice Ao28 t413.length co28)) (fun _ hk => hk.2) (.slice Ao29 t416.length co29)) (fun _ hk => hk.2) (.slice Ao30 t419.length co30)) (fun _ hk => trivial), by (with_reducible repeat (first | apply Kd.R_alloc | apply Kd.R_drewN | apply Kd.R_drew)); exact Kd.R_mono (Kd.R_far (p := ⟨gb409, 5, none⟩) (Kd.R_far (p := ⟨gb409, 4, none⟩) (Kd.R_far (p := ⟨gb409, 3, none⟩) (Kd.R_far (p := ⟨gb409, 2, none⟩) (Kd.R_far (p := ⟨gb409, 1, none⟩) (Kd.R_far (p := ⟨gb409, 0, none⟩) (Kd.R_far (p := ⟨gb423, 5, none⟩) (Kd.R_far (p := ⟨gb423, 4, none⟩) (Kd.R_far (p := ⟨gb423, 3, none⟩) (Kd.R_far (p := ⟨gb423, 2, none⟩) (Kd.R_far (p := ⟨gb423, 1, none⟩) (Kd.R_far (p := ⟨gb423, 0, none⟩) (Kd.R_types (Kd.R_types HO418.out BK423.out (by decide)) BK409.out (by decide)) (fun _ hk => hk.1.2) (.int .i64 t410)) (fun _ hk => hk.1.2) (.int .i64 t411)) (fun _ hk => hk.1.2) (.int .i64 t412)) (fun _ hk => hk.1.2) (.slice Ao28 t413.length co28)) (fun _ hk => hk.1.2) (.slice Ao29 t416.length co29)) (fun _ hk => hk.1.2) (.slice Ao30 t419.length co30)) (fun _ hk => hk.2) (.int .i64 t410)) (fun _ hk => hk.2) (.int .i64 t411)) (fun _ hk => hk.2) (.int .i64 t412)) (fun _ hk => hk.2) (.slice Ao28 t413.length co28)) (fun _ hk => hk.2) (.slice Ao29 t416.length co29)) (fun _ hk => hk.2) (.slice Ao30 t419.length co30)) (fun _ hk => trivial), by (with_reducible repeat (first | apply Kd.R_alloc | apply Kd.R_drewN | apply Kd.R_drew)); exact Kd.R_mono (Kd.R_far (p := ⟨gb409, 5, none⟩) (Kd.R_far (p := ⟨gb409, 4, none⟩) (Kd.R_far (p := ⟨gb409, 3, none⟩) (Kd.R_far (p := ⟨gb409, 2, none⟩) (Kd.R_far (p := ⟨gb409, 1, none⟩) (Kd.R_far (p := ⟨gb409, 0, none⟩) (Kd.R_far (p := ⟨gb423, 5, none⟩) (Kd.R_far (p := ⟨gb423, 4, none⟩) (Kd.R_far (p := ⟨gb423, 3, none⟩) (Kd.R_far (p := ⟨gb423, 2, none⟩) (Kd.R_far (p := ⟨gb423, 1, none⟩) (Kd.R_far (p := ⟨gb423, 0, none⟩) (Kd.R_types (Kd.R_types HO421.out BK423.out (by decide)) BK409.out (by decide)) (fun _ hk => hk.1.2) (.int .i64 t410)) (fun _ hk => hk.1.2) (.int .i64 t411)) (fun _ hk => hk.1.2) (.int .i64 t412)) (fun _ hk => hk.1.2) (.slice Ao28 t413.length co28)) (fun _ hk => hk.1.2) (.slice Ao29 t416.length co29)) (fun _ hk => hk.1.2) (.slice Ao30 t419.length co30)) (fun _ hk => hk.2) (.int .i64 t410)) (fun _ hk => hk.2) (.int .i64 t411)) (fun _ hk => hk.2) (.int .i64 t412)) (fun _ hk => hk.2) (.slice Ao28 t413.length co28)) (fun _ hk => hk.2) (.slice Ao29 t416.length co29)) (fun _ hk => hk.2) (.slice Ao30 t419.length co30)) (fun _ hk => trivial), oB⟩
 ·rw [if_neg c4] at H
  have c4b0 : (t422 == 0) = false := beq_eq_false_iff_ne.mpr c4
  have c4b1 : (t422 != 0) = true := bne_iff_ne.mpr c4
  simp only [Option.some.injEq, Prod.mk.injEq] at H
  obtain ⟨rfl, rfl, rfl, rfl, rfl, rfl, rfl⟩ := H
  go_enter Tryz.func48, Tryz.ntmps48
  go_wp2_with (first | ((with_reducible refine gate_dst (N := 2) rfl ?_); refine bx_ 2 #[.slice A0_0 l0_0.length c0_0, .int .i64 a0_1] 26 ?_; intro gb408 hg w32 hbox hb; have BK408 := Aside0.mk (hbox); have GW408 := gs_ hg; replace HB := Aside0.mk (below_step oB hb); clear hb hbox hg) | ((with_reducible refine gate_dst (N := 4) rfl ?_); refine bx_ 4 #[.int .i64 0, .int .i64 0, .int .i64 0, .slice none 0 0, .slice none 0 0, .slice none 0 0] 51 ?_; intro gb409 hg w33 hbox hb; have BK409 := Aside0.mk (hbox); have GW409 := gs_ hg; have NB408_409 := nl_ hg BK408; have NB409_408 := nr_ hg BK408; replace BK408 := kb_ BK408 hb; replace HB := Aside0.mk (below_step oB hb); clear hb hbox hg; have hnb34 := NB408_409.out; have hnc34 := NB409_408.out; obtain ⟨⟨_, _⟩, _, _⟩ := z2 BK408) | ((with_reducible refine gate_callee (f := 28) rfl ?_); refine gl_ 11 Tryz.func28 (impl_Stat.calls k _ _ l0_0 a0_1 a1 t410 t411 t412 t413 t416 t419 t422 _ (kC HR0_0) HC0_0.out A3.out) ?_; rintro e w36 ⟨v414, v417, v420, rfl, ho0, ho1, ho2, hb⟩; refine ⟨_, rfl, ?_⟩; have HO415 := Aside0.mk (Kd.R_lower ho0 (below_size oB)); have HO418 := Aside0.mk (Kd.R_lower ho1 (below_size oB)); have HO421 := Aside0.mk (Kd.R_lower ho2 (below_size oB)); replace BK408 := kb_ BK408 hb; replace BK409 := kb_ BK409 hb; replace HB := Aside0.mk (below_step oB hb); (try clear ho1); (try clear ho2)) | ((with_reducible refine gate_dst (N := 6) rfl ?_); refine bx_ 6 #[.int .i64 0, .int .i64 0, .int .i64 0, .slice none 0 0, .slice none 0 0, .slice none 0 0] 51 ?_; intro gb423 hg w37 hbox hb; have BK423 := Aside0.mk (hbox); have GW423 := gs_ hg; have NB408_423 := nl_ hg BK408; have NB423_408 := nr_ hg BK408; have NB409_423 := nl_ hg BK409; have NB423_409 := nr_ hg BK409; replace HO415 := kr_ HO415 hb; replace HO418 := kr_ HO418 hb; replace HO421 := kr_ HO421 hb; replace BK408 := kb_ BK408 hb; replace BK409 := kb_ BK409 hb; replace HB := Aside0.mk (below_step oB hb); clear hb hbox hg; have hnb38 := NB423_408.out; have hnc38 := NB408_423.out; have hnb39 := NB423_409.out; have hnc39 := NB409_423.out; obtain ⟨⟨_, _, _, _, _, _⟩, _, _, _, _, _, _⟩ := z6 BK423; obtain ⟨Ao41, co41, eo41⟩ := Kd.R_slice HO415.out; subst eo41; obtain ⟨Ao42, co42, eo42⟩ := Kd.R_slice HO418.out; subst eo42; obtain ⟨Ao43, co43, eo43⟩ := Kd.R_slice HO421.out; subst eo43; obtain ⟨⟨_, _, _, _, _, _⟩, _, _, _, _, _, _⟩ := z6 BK409))
  refine bodyPost_ret (results_ct rfl _ _ gb409 51 #[.int .i64 t410, .int .i64 t411, .int .i64 t412, .slice Ao41 t413.length co41, .slice Ao42 t416.length co42, .slice Ao43 t419.length co43] (0, 0) _ rfl (oP BK409) Tryz.underlying51 rfl (by kernel_rfl)) rfl ?_
  exact ⟨_, _, _, oE, by (with_reducible repeat (first | apply Kd.R_alloc | apply Kd.R_drewN | apply Kd.R_drew)); exact Kd.R_mono (Kd.R_far (p := ⟨gb409, 5, none⟩) (Kd.R_far (p := ⟨gb409, 4, none⟩) (Kd.R_far (p := ⟨gb409, 3, none⟩) (Kd.R_far (p := ⟨gb409, 2, none⟩) (Kd.R_far (p := ⟨gb409, 1, none⟩) (Kd.R_far (p := ⟨gb409, 0, none⟩) (Kd.R_far (p := ⟨gb423, 5, none⟩) (Kd.R_far (p := ⟨gb423, 4, none⟩) (Kd.R_far (p := ⟨gb423, 3, none⟩) (Kd.R_far (p := ⟨gb423, 2, none⟩) (Kd.R_far (p := ⟨gb423, 1, none⟩) (Kd.R_far (p := ⟨gb423, 0, none⟩) (Kd.R_types (Kd.R_types HO415.out BK423.out (by decide)) BK409.out (by decide)) (fun _ hk => hk.1.2) (.int .i64 t410)) (fun _ hk => hk.1.2) (.int .i64 t411)) (fun _ hk => hk.1.2) (.int .i64 t412)) (fun _ hk => hk.1.2) (.slice Ao41 t413.length co41)) (fun _ hk => hk.1.2) (.slice Ao42 t416.length co42)) (fun _ hk => hk.1.2) (.slice Ao43 t419.length co43)) (fun _ hk => hk.2) (.int .i64 t410)) (fun _ hk => hk.2) (.int .i64 t411)) (fun _ hk => hk.2) (.int .i64 t412)) (fun _ hk => hk.2) (.slice Ao41 t413.length co41)) (fun _ hk => hk.2) (.slice Ao42 t416.length co42)) (fun _ hk => hk.2) (.slice Ao43 t419.length co43)) (fun _ hk => trivial), by (with_reducible repeat (first | apply Kd.R_alloc | apply Kd.R_drewN | apply Kd.R_drew)); exact Kd.R_mono (Kd.R_far (p := ⟨gb409, 5, none⟩) (Kd.R_far (p := ⟨gb409, 4, none⟩) (Kd.R_far (p := ⟨gb409, 3, none⟩) (Kd.R_far (p := ⟨gb409, 2, none⟩) (Kd.R_far (p := ⟨gb409, 1, none⟩) (Kd.R_far (p := ⟨gb409, 0, none⟩) (Kd.R_far (p := ⟨gb423, 5, none⟩) (Kd.R_far (p := ⟨gb423, 4, none⟩) (Kd.R_far (p := ⟨gb423, 3, none⟩) (Kd.R_far (p := ⟨gb423, 2, none⟩) (Kd.R_far (p := ⟨gb423, 1, none⟩) (Kd.R_far (p := ⟨gb423, 0, none⟩) (Kd.R_types (Kd.R_types HO418.out BK423.out (by decide)) BK409.out (by decide)) (fun _ hk => hk.1.2) (.int .i64 t410)) (fun _ hk => hk.1.2) (.int .i64 t411)) (fun _ hk => hk.1.2) (.int .i64 t412)) (fun _ hk => hk.1.2) (.slice Ao41 t413.length co41)) (fun _ hk => hk.1.2) (.slice Ao42 t416.length co42)) (fun _ hk => hk.1.2) (.slice Ao43 t419.length co43)) (fun _ hk => hk.2) (.int .i64 t410)) (fun _ hk => hk.2) (.int .i64 t411)) (fun _ hk => hk.2) (.int .i64 t412)) (fun _ hk => hk.2) (.slice Ao41 t413.length co41)) (fun _ hk => hk.2) (.slice Ao42 t416.length co42)) (fun _ hk => hk.2) (.slice Ao43 t419.length co43)) (fun _ hk => trivial), by (with_reducible repeat (first | apply Kd.R_alloc | apply Kd.R_drewN | apply Kd.R_drew)); exact Kd.R_mono (Kd.R_far (p := ⟨gb409, 5, none⟩) (Kd.R_far (p := ⟨gb409, 4, none⟩) (Kd.R_far (p := ⟨gb409, 3, none⟩) (Kd.R_far (p := ⟨gb409, 2, none⟩) (Kd.R_far (p := ⟨gb409, 1, none⟩) (Kd.R_far (p := ⟨gb409, 0, none⟩) (Kd.R_far (p := ⟨gb423, 5, none⟩) (Kd.R_far (p := ⟨gb423, 4, none⟩) (Kd.R_far (p := ⟨gb423, 3, none⟩) (Kd.R_far (p := ⟨gb423, 2, none⟩) (Kd.R_far (p := ⟨gb423, 1, none⟩) (Kd.R_far (p := ⟨gb423, 0, none⟩) (Kd.R_types (Kd.R_types HO421.out BK423.out (by decide)) BK409.out (by decide)) (fun _ hk => hk.1.2) (.int .i64 t410)) (fun _ hk => hk.1.2) (.int .i64 t411)) (fun _ hk => hk.1.2) (.int .i64 t412)) (fun _ hk => hk.1.2) (.slice Ao41 t413.length co41)) (fun _ hk => hk.1.2) (.slice Ao42 t416.length co42)) (fun _ hk => hk.1.2) (.slice Ao43 t419.length co43)) (fun _ hk => hk.2) (.int .i64 t410)) (fun _ hk => hk.2) (.int .i64 t411)) (fun _ hk => hk.2) (.int .i64 t412)) (fun _ hk => hk.2) (.slice Ao41 t413.length co41)) (fun _ hk => hk.2) (.slice Ao42 t416.length co42)) (fun _ hk => hk.2) (.slice Ao43 t419.length co43)) (fun _ hk => trivial), oB⟩

end Go.Proofs.YtkcfmbggdkkfeaaGreatDoor.P
