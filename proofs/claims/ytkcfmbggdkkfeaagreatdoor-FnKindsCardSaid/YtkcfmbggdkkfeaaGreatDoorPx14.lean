-- By this session's own program (wip/myprint.py) out of the translation; Lean checks it.
import Derived.Test.YtkcfmbggdkkfeaaGreatDoorPx0
import Derived.Test.YtkcfmbggdkkfeaaGreatDoorPx1
import Derived.Test.YtkcfmbggdkkfeaaGreatDoorPx2
import Derived.Test.YtkcfmbggdkkfeaaGreatDoorPx8
import Derived.Test.YtkcfmbggdkkfeaaGreatDoorPx9
import Derived.Test.YtkcfmbggdkkfeaaGreatDoorPx10
import Derived.Test.YtkcfmbggdkkfeaaGreatDoorPx12
namespace Go.Proofs.YtkcfmbggdkkfeaaGreatDoor.P
open Go.RowKit Go.Proofs.YtkcfmbggdkkfeaaGreatDoorW.PrintWords Go.Proofs.YtkcfmbggdkkfeaaGreatDoorW.PrintLast Go.Proofs.YtkcfmbggdkkfeaaGreatDoorW.PrintMore
attribute [local go_sem] max2_int min2_int max_two min_two max_three min_three max_four min_four   -- for this text's walks alone
set_option linter.unusedVariables false
set_option linter.unusedSimpArgs false

/-! ### impl_ReadFile: function 23 -/
def impl_ReadFile.j0 : Nat → ByteArray → Int → Int → Bool → List (S51) → Int → Option (List Int × Int)
 | 0, _, _, _, _, _, _ => none
 | k + 1, x1, x2, x3, x18, x468000, x468001 => if x18 = true then (some (([] : List Int), 1)) else ((impl_Stat.f k x468000 x468001 x1).bind fun bt468 => (if bt468.2.2.2.2.2.2 = 0 then (if bt468.2.1 = 1 then (if 0 ≤ (mn x2 (bt468.2.2.2.1.length : Int)) then (if (mn x2 (bt468.2.2.2.1.length : Int)) ≤ (bt468.2.2.2.1.length : Int) then ((some (bt468.2.2.2.1.drop ((mn x2 (bt468.2.2.2.1.length : Int)) : Int).toNat : List Int)).bind fun y482 => (if 0 ≤ (mn x3 (y482.length : Int)) then (if (mn x3 (y482.length : Int)) ≤ (y482.length : Int) then ((slices_Clone_byte_byte.f (y482.take ((mn x3 (y482.length : Int)) : Int).toNat)).bind fun t490 => (some (t490, 0))) else (none)) else (none))) else (none)) else (none)) else (some (([] : List Int), 3))) else (some (([] : List Int), bt468.2.2.2.2.2.2))))
def impl_ReadFile.f (k : Nat) (l0_0 : List (S51)) (a0_1 : Int) (a1 : ByteArray) (a2 : Int) (a3 : Int) : Option (List Int × Int) := if a2 < 0 then (impl_ReadFile.j0 k a1 a2 a3 true l0_0 a0_1) else (impl_ReadFile.j0 k a1 a2 a3 (decide (a3 < 0)) l0_0 a0_1)
set_option maxHeartbeats 8000000 in
set_option maxRecDepth 100000 in
theorem impl_ReadFile.calls (k : Nat) (A0_0 : Option Addr) (c0_0 : Nat) (l0_0 : List (S51)) (a0_1 : Int) (a1 : ByteArray) (a2 : Int) (a3 : Int) (r1 : List Int) (r2 : Int) (w : World) (hr0_0 : Kd.C k51 w A0_0 l0_0.length l0_0) (hc0_0 : l0_0.length ≤ c0_0) (h : impl_ReadFile.f k l0_0 a0_1 a1 a2 a3 = some (r1, r2)) (hG : GOk w := by exact gk_ oB (by first | (with_reducible assumption) | assumption)) :
  Calls Tryz.prog 23 #[.agg #[.slice A0_0 l0_0.length c0_0, .int .i64 a0_1], .string a1, .int .i64 a2, .int .i64 a3] w fun e w' => ∃ v0_ : Value, e = .returned (.tuple #[v0_, .int .i64 r2]) ∧ Kd.R (Kd.int .u8) 5 w' w.heap.size (fun _ => True) v0_ r1 ∧ Below w.heap.size w w' := by
 have HG := Aside0.mk hG
 clear hG
 have hu26 := Tryz.underlying26
 have hu51 := Tryz.underlying51
 have HR0_0 := Aside0.mk hr0_0
 have HC0_0 := Aside0.mk hc0_0
 clear hr0_0 hc0_0
 have HB := Aside0.mk (Below.refl w.heap.size w)
 unfold impl_ReadFile.f at h
 have H := h
 clear h
 have HC5 := Aside0.mk H
 clear H
 go_enter Tryz.func23, Tryz.ntmps23
 go_upto_region 1 with (first | ((with_reducible refine gate_dst (N := 4) rfl ?_); refine bx_ 4 #[.slice A0_0 l0_0.length c0_0, .int .i64 a0_1] 26 ?_; intro gb467 hg w6 hbox hb; have BK467 := Aside0.mk (hbox); have GW467 := gs_ hg; replace HB := Aside0.mk (below_step oB hb); clear hb hbox hg))
 (try simp only [Act.put, List.setIfInBounds_toArray, List.set_cons_zero, List.set_cons_succ])
 go_cut [18] (fun v18 wc => ∃ (kq : Nat) (x18_4 : Bool), v18 = .bool x18_4 ∧ Aside0 (impl_ReadFile.j0 kq a1 a2 a3 x18_4 l0_0 a0_1 = some (r1, r2)) ∧ Aside0 (kq ≤ k) ∧ Aside0 (wc.heap[gb467]? = some (.cells #[(.slice A0_0 l0_0.length c0_0), .int .i64 a0_1] 26 (0, 0))) ∧ Aside0 (Below w.heap.size w wc))
 case first =>
  have H := HC5.out
  clear HC5
  replace H := itD H
  rcases H with ⟨c7b0, H⟩ | ⟨c7b0, H⟩
  ·(first | rw [c7b0] | rw [c7b2] | (simp only [i64_w, i32_w]; rw [c7b0]) | skip)
   have H' := Aside0.mk H
   clear H
   go_wp2
   go_meet
   case rel => exact ⟨_, (true), oS, H', ⟨by first | omega | exact Nat.le_refl _⟩, ⟨oF BK467⟩, ⟨oB⟩⟩
  ·(first | rw [c7b0] | rw [c7b2] | (simp only [i64_w, i32_w]; rw [c7b0]) | skip)
   have H' := Aside0.mk H
   clear H
   go_wp2
   go_meet
   case rel => exact ⟨_, (decide (a3 < 0)), oS, H', ⟨by first | omega | exact Nat.le_refl _⟩, ⟨oF BK467⟩, ⟨oB⟩⟩
 case rest =>
  clear HC5
  obtain ⟨kq, x18_4, rfl, HA, HJ4, BK467, HB⟩ := hcut
  cases kq with
  | zero => exact absurd HA.out (by simp [impl_ReadFile.j0])
  | succ kj4 =>
   have H := HA.out
   clear HA
   simp only [impl_ReadFile.j0] at H
   replace H := itB H
   rcases H with ⟨rfl, H⟩ | ⟨rfl, H⟩
   ·simp only [Option.some.injEq, Prod.mk.injEq] at H
    obtain ⟨rfl, rfl⟩ := H
    go_wp2
    go_ret2
    exact ⟨_, oE, by first | exact Kd.R_nil _ _ _ _ _ | exact Kd.N_nil _ _ _ _ _ | exact Kd.V_nil _ _ _ _ _ | exact Kd.Q_nil _ _ _ _ _ | exact Kd.S_nil _ _ _ _ _, oB⟩
   ·replace H := bA H
    obtain ⟨⟨t468, t469, t470, t471, t474, t477, t480⟩, A9, H⟩ := H
    try dsimp only at H
    by_cases c10 : t480 = 0
    ·rw [if_pos c10] at H
     have c10b0 : (t480 == 0) = true := beq_iff_eq.mpr c10
     have c10b1 : (t480 != 0) = false := bne_eq_false_iff_eq.mpr c10
     clear c10
     by_cases c11 : t469 = 1
     ·rw [if_pos c11] at H
      have c11b0 : (t469 == 1) = true := beq_iff_eq.mpr c11
      have c11b1 : (t469 != 1) = false := bne_eq_false_iff_eq.mpr c11
      clear c11
      obtain ⟨ji12, hji12⟩ : ∃ j_ : Int, (mn a2 (t471.length : Int)) = j_ := ⟨_, rfl⟩
      replace H : (if 0 ≤ (ji12) then (if (ji12) ≤ (t471.length : Int) then ((some (t471.drop ((ji12) : Int).toNat : List Int)).bind fun y482 => (if 0 ≤ (mn a3 (y482.length : Int)) then (if (mn a3 (y482.length : Int)) ≤ (y482.length : Int) then ((slices_Clone_byte_byte.f (y482.take ((mn a3 (y482.length : Int)) : Int).toNat)).bind fun t490 => (some (t490, 0))) else (none)) else (none))) else (none)) else (none)) = some (r1, r2) := by first | (rw [hji12] at H; exact H) | (simp only [hji12] at H ⊢; exact H)
      (try rw [hji12] at A9)
      have hji12_ : (if (t471.length : Int) < a2 then (t471.length : Int) else a2) = ji12 := hji12
      by_cases c13 : 0 ≤ (ji12)
      ·rw [if_pos c13] at H
       have c13b0 := eq_true c13
       have c13b1 : decide (0 ≤ (ji12)) = true := decide_eq_true c13
       clear c13
       by_cases c14 : (ji12) ≤ (t471.length : Int)
       ·rw [if_pos c14] at H
        have c14b0 := eq_true c14
        have c14b1 : decide ((ji12) ≤ (t471.length : Int)) = true := decide_eq_true c14
        clear c14
        obtain ⟨y482, hy482⟩ : ∃ y_ : List Int, y_ = (t471.drop ((ji12) : Int).toNat) := ⟨_, rfl⟩
        replace H : (if 0 ≤ (mn a3 (y482.length : Int)) then (if (mn a3 (y482.length : Int)) ≤ (y482.length : Int) then ((slices_Clone_byte_byte.f (y482.take ((mn a3 (y482.length : Int)) : Int).toNat)).bind fun t490 => (some (t490, 0))) else (none)) else (none)) = some (r1, r2) := by first | (rw [hy482]; with_reducible exact H) | (have H2_ := (Option.bind_some _ _).symm.trans H; rw [hy482]; with_reducible exact H2_) | (have H2_ := (Option.bind_some _ _).symm.trans H; with_reducible exact H2_) | with_reducible exact H | (rw [hy482]; exact H) | exact H
        have Ny482 := Aside0.mk hy482
        clear hy482
        obtain ⟨ji15, hji15⟩ : ∃ j_ : Int, (mn a3 (y482.length : Int)) = j_ := ⟨_, rfl⟩
        replace H : (if 0 ≤ (ji15) then (if (ji15) ≤ (y482.length : Int) then ((slices_Clone_byte_byte.f (y482.take ((ji15) : Int).toNat)).bind fun t490 => (some (t490, 0))) else (none)) else (none)) = some (r1, r2) := by first | (rw [hji15] at H; exact H) | (simp only [hji15] at H ⊢; exact H)
        (try rw [hji15] at A9)
        have hji15_ : (if (y482.length : Int) < a3 then (y482.length : Int) else a3) = ji15 := hji15
        by_cases c16 : 0 ≤ (ji15)
        ·rw [if_pos c16] at H
         have c16b0 := eq_true c16
         have c16b1 : decide (0 ≤ (ji15)) = true := decide_eq_true c16
         clear c16
         by_cases c17 : (ji15) ≤ (y482.length : Int)
         ·rw [if_pos c17] at H
          have c17b0 := eq_true c17
          have c17b1 : decide ((ji15) ≤ (y482.length : Int)) = true := decide_eq_true c17
          clear c17
          obtain ⟨y486, hy486⟩ : ∃ y_ : List Int, y_ = (y482.take ((ji15) : Int).toNat) := ⟨_, rfl⟩
          replace H : ((slices_Clone_byte_byte.f y486).bind fun t490 => (some (t490, 0))) = some (r1, r2) := by first | (rw [hy486]; with_reducible exact H) | (have H2_ := (Option.bind_some _ _).symm.trans H; rw [hy486]; with_reducible exact H2_) | (have H2_ := (Option.bind_some _ _).symm.trans H; with_reducible exact H2_) | with_reducible exact H | (rw [hy486]; exact H) | exact H
          have Ny486 := Aside0.mk hy486
          clear hy486
          replace H := bA H
          obtain ⟨t490, A18, H⟩ := H
          try dsimp only at H
          simp only [Option.some.injEq, Prod.mk.injEq] at H
          obtain ⟨rfl, rfl⟩ := H
          obtain ⟨⟨_, _⟩, _, _⟩ := z2 BK467
          go_wp2_with (first | ((with_reducible refine gate_callee (f := 28) rfl ?_); refine gl_ 22 Tryz.func28 (impl_Stat.calls kj4 _ _ l0_0 a0_1 a1 t468 t469 t470 t471 t474 t477 t480 _ (kC HR0_0) HC0_0.out A9.out) ?_; rintro e w20 ⟨v472, v475, v478, rfl, ho0, ho1, ho2, hb⟩; refine ⟨_, rfl, ?_⟩; have HO473 := Aside0.mk (Kd.R_lower ho0 (below_size oB)); have HO476 := Aside0.mk (Kd.R_lower ho1 (below_size oB)); have HO479 := Aside0.mk (Kd.R_lower ho2 (below_size oB)); replace BK467 := kb_ BK467 hb; replace HB := Aside0.mk (below_step oB hb); (try clear ho1); (try clear ho2)) | ((with_reducible refine gate_dst (N := 10) rfl ?_); refine bx_ 10 #[.int .i64 0, .int .i64 0, .int .i64 0, .slice none 0 0, .slice none 0 0, .slice none 0 0] 51 ?_; intro gb481 hg w21 hbox hb; have BK481 := Aside0.mk (hbox); have GW481 := gs_ hg; have NB467_481 := nl_ hg BK467; have NB481_467 := nr_ hg BK467; replace HO473 := kr_ HO473 hb; replace HO476 := kr_ HO476 hb; replace HO479 := kr_ HO479 hb; replace BK467 := kb_ BK467 hb; replace HB := Aside0.mk (below_step oB hb); clear hb hbox hg; have hnb22 := NB481_467.out; have hnc22 := NB467_481.out; obtain ⟨⟨_, _, _, _, _, _⟩, _, _, _, _, _, _⟩ := z6 BK481; obtain ⟨Ao24, co24, eo24⟩ := Kd.R_slice HO473.out; subst eo24; obtain ⟨Ao25, co25, eo25⟩ := Kd.R_slice HO476.out; subst eo25; obtain ⟨Ao26, co26, eo26⟩ := Kd.R_slice HO479.out; subst eo26) | ((with_reducible refine gate_store (t := 51) (p := 10) rfl ?_); refine store_event (t := 51) (p := 10) (v := ?vo_w27) (w1 := ((((((w21.setCell ⟨gb481, 0, none⟩ (.int .i64 t468)).setCell ⟨gb481, 1, none⟩ (.int .i64 t469)).setCell ⟨gb481, 2, none⟩ (.int .i64 t470)).setCell ⟨gb481, 3, none⟩ (.slice Ao24 t471.length co24)).setCell ⟨gb481, 4, none⟩ (.slice Ao25 t474.length co25)).setCell ⟨gb481, 5, none⟩ (.slice Ao26 t477.length co26))) ?hg ?ho ?hn ?hr ?_; (case ho => rfl); (case hg => rfl); (case hn => rfl); (case hr => first | (go_simp; done) | (go_simp; rfl)); intro w27 hw; have n0_ : Aside0 (Kd.R (Kd.int .u8) 5 w27 w.heap.size (fun _ => True) (.slice Ao24 t471.length co24) t471) := ⟨(by rw [hw]; exact (by (with_reducible repeat (first | apply Kd.R_alloc | apply Kd.R_drewN | apply Kd.R_drew)); exact Kd.R_mono (Kd.R_far (p := ⟨gb481, 5, none⟩) (Kd.R_far (p := ⟨gb481, 4, none⟩) (Kd.R_far (p := ⟨gb481, 3, none⟩) (Kd.R_far (p := ⟨gb481, 2, none⟩) (Kd.R_far (p := ⟨gb481, 1, none⟩) (Kd.R_far (p := ⟨gb481, 0, none⟩) (Kd.R_types HO473.out BK481.out (by decide)) (fun _ hk => hk.2) (.int .i64 t468)) (fun _ hk => hk.2) (.int .i64 t469)) (fun _ hk => hk.2) (.int .i64 t470)) (fun _ hk => hk.2) (.slice Ao24 t471.length co24)) (fun _ hk => hk.2) (.slice Ao25 t474.length co25)) (fun _ hk => hk.2) (.slice Ao26 t477.length co26)) (fun _ hk => trivial)))⟩; have n1_ : Aside0 (Kd.R k65 65 w27 w.heap.size (fun _ => True) (.slice Ao25 t474.length co25) t474) := ⟨(by rw [hw]; exact (by (with_reducible repeat (first | apply Kd.R_alloc | apply Kd.R_drewN | apply Kd.R_drew)); exact Kd.R_mono (Kd.R_far (p := ⟨gb481, 5, none⟩) (Kd.R_far (p := ⟨gb481, 4, none⟩) (Kd.R_far (p := ⟨gb481, 3, none⟩) (Kd.R_far (p := ⟨gb481, 2, none⟩) (Kd.R_far (p := ⟨gb481, 1, none⟩) (Kd.R_far (p := ⟨gb481, 0, none⟩) (Kd.R_types HO476.out BK481.out (by decide)) (fun _ hk => hk.2) (.int .i64 t468)) (fun _ hk => hk.2) (.int .i64 t469)) (fun _ hk => hk.2) (.int .i64 t470)) (fun _ hk => hk.2) (.slice Ao24 t471.length co24)) (fun _ hk => hk.2) (.slice Ao25 t474.length co25)) (fun _ hk => hk.2) (.slice Ao26 t477.length co26)) (fun _ hk => trivial)))⟩; have n2_ : Aside0 (Kd.R k71 71 w27 w.heap.size (fun _ => True) (.slice Ao26 t477.length co26) t477) := ⟨(by rw [hw]; exact (by (with_reducible repeat (first | apply Kd.R_alloc | apply Kd.R_drewN | apply Kd.R_drew)); exact Kd.R_mono (Kd.R_far (p := ⟨gb481, 5, none⟩) (Kd.R_far (p := ⟨gb481, 4, none⟩) (Kd.R_far (p := ⟨gb481, 3, none⟩) (Kd.R_far (p := ⟨gb481, 2, none⟩) (Kd.R_far (p := ⟨gb481, 1, none⟩) (Kd.R_far (p := ⟨gb481, 0, none⟩) (Kd.R_types HO479.out BK481.out (by decide)) (fun _ hk => hk.2) (.int .i64 t468)) (fun _ hk => hk.2) (.int .i64 t469)) (fun _ hk => hk.2) (.int .i64 t470)) (fun _ hk => hk.2) (.slice Ao24 t471.length co24)) (fun _ hk => hk.2) (.slice Ao25 t474.length co25)) (fun _ hk => hk.2) (.slice Ao26 t477.length co26)) (fun _ hk => trivial)))⟩; have n3_ : Aside0 (w27.heap[gb467]? = some (.cells #[.slice A0_0 l0_0.length c0_0, .int .i64 a0_1] 26 (0, 0))) := ⟨(by rw [hw]; exact (oF BK467))⟩; have n4_ : Aside0 (w27.heap[gb481]? = some (.cells #[.int .i64 t468, .int .i64 t469, .int .i64 t470, .slice Ao24 t471.length co24, .slice Ao25 t474.length co25, .slice Ao26 t477.length co26] 51 (0, 0))) := ⟨(by rw [hw]; exact (oP BK481))⟩; have n5_ : Aside0 (Below w.heap.size w w27) := ⟨(by rw [hw]; exact oB)⟩; clear hw; clear HO473; clear HO476; clear HO479; clear BK467; clear BK481; clear HB; have HO473 := n0_; have HO476 := n1_; have HO479 := n2_; have BK467 := n3_; have BK481 := n4_; have HB := n5_; clear n0_ n1_ n2_ n3_ n4_ n5_; obtain ⟨⟨_, _, _, _, _, _⟩, _, _, _, _, _, _⟩ := z6 BK481; have q29 : ((ji12) : Int) ≤ ((t471.length : Int) : Int) := oa; obtain ⟨i029, hi029, _, hsz29, _⟩ := info_parts info5; have hroom29 : t471.length ≤ co24 := (Kd.R_reads' HO473.out).2.1; have hC29 : Kd.C (Kd.int .u8) _ Ao24 t471.length t471 := (Kd.R_reads' HO473.out).2.2; have q029 : (0 : Int) ≤ ((ji12) : Int) := oa; have hcut29 := cut_from (P := Tryz.prog) 22 5 .i64 Tryz.underlying22 hi029 1 hsz29 Ao24 t471.length co24 (ji12) q029 q29; have hr29 := Kd.C_drop (m := ((ji12) : Int).toNat) (c := co24) hC29 (by omega) hroom29; obtain ⟨A29, hA29⟩ : ∃ A1, A1 = (if co24 = ((ji12) : Int).toNat then Ao24 else (Ao24 : Option Addr).map (·.add (((ji12) : Int).toNat * 1))) := ⟨_, rfl⟩; obtain ⟨c29, hc29⟩ : ∃ c1, c1 = co24 - ((ji12) : Int).toNat := ⟨_, rfl⟩; have hy29 : y482.length = t471.length - ((ji12) : Int).toNat := (by rw [Ny482.out, List.length_drop] <;> omega); rw [show (t471).drop ((ji12) : Int).toNat = y482 from Ny482.out.symm] at hr29; replace hr29 : Kd.C (Kd.int .u8) _ A29 y482.length y482 := (by rw [hA29]; exact hr29); rw [← hy29, ← hA29, ← hc29] at hcut29; have HR485 := Aside0.mk hr29; have HC485 := Aside0.mk (show y482.length ≤ c29 from by rw [hy29, hc29]; exact Nat.sub_le_sub_right hroom29 _); clear hr29 hC29 hroom29 hi029 hsz29 hc29; have KY29 := Aside0.mk hy29; have KA29 := Aside0.mk hA29; clear hy29 hA29; have KL29 := Aside0.mk (show ((ji12) : Int).toNat ≤ t471.length from by omega); replace q29 := eq_true q29; have q30 : ((ji15) : Int) ≤ ((y482.length : Int) : Int) := oa; obtain ⟨i030, hi030, _, hsz30, _⟩ := info_parts info5; have hroom30 : y482.length ≤ c29 := HC485.out; have hC30 : Kd.C (Kd.int .u8) _ A29 y482.length y482 := (by repeat (first | (with_reducible exact HR485.out) | (with_reducible refine Kd.C_alloc ?_ _) | (with_reducible refine Kd.C_drewN ?_ _) | (with_reducible refine Kd.C_drew ?_) | exact HR485.out)); have hcut30 := cut_to (P := Tryz.prog) 22 5 .i64 Tryz.underlying22 hi030 A29 y482.length c29 (ji15) oa q30 hroom30; have hr30 := Kd.C_take (m := ((ji15) : Int).toNat) hC30 (by omega); have hy30 : y486.length = ((ji15) : Int).toNat := (by rw [Ny486.out, List.length_take]; omega); rw [← Ny486.out] at hr30; rw [← hy30] at hcut30; have HR489 := Aside0.mk hr30; have HC489 := Aside0.mk (show y486.length ≤ c29 from by omega); clear hr30 hC30 hroom30 hi030 hsz30; have KY30 := Aside0.mk hy30; clear hy30; replace q30 := eq_true q30) | ((with_reducible refine gate_callee (f := 51) rfl ?_); refine gl_ 45 Tryz.func51 (slices_Clone_byte_byte.calls _ _ y486 t490 _ ?side1 HC489.out A18.out) ?_; (case side1 => repeat (first | exact (by repeat (first | (with_reducible exact HR489.out) | (with_reducible refine Kd.C_alloc ?_ _) | (with_reducible refine Kd.C_drewN ?_ _) | (with_reducible refine Kd.C_drew ?_) | exact HR489.out)) | (with_reducible refine Kd.C_alloc ?_ _) | (with_reducible refine Kd.C_drewN ?_ _) | (with_reducible refine Kd.C_drew ?_))); rintro e w31 ⟨v491, rfl, ho0, hb⟩; refine ⟨_, rfl, ?_⟩; have HO492 := Aside0.mk (Kd.R_lower (Kd.R_new' ho0 (kl_ HO473)) (below_size oB)); replace HO473 := ke_ HO473 ho0 hb; replace HO476 := kr_ HO476 hb; replace HO479 := kr_ HO479 hb; replace BK467 := kb_ BK467 hb; replace BK481 := kb_ BK481 hb; replace HR485 := Aside0.mk (Kd.C_below (by repeat (first | (with_reducible exact HR485.out) | (with_reducible refine Kd.C_alloc ?_ _) | (with_reducible refine Kd.C_drewN ?_ _) | (with_reducible refine Kd.C_drew ?_) | exact HR485.out)) hb); replace HR489 := Aside0.mk (Kd.C_below (by repeat (first | (with_reducible exact HR489.out) | (with_reducible refine Kd.C_alloc ?_ _) | (with_reducible refine Kd.C_drewN ?_ _) | (with_reducible refine Kd.C_drew ?_) | exact HR489.out)) hb); replace HB := Aside0.mk (below_step oB hb)))
          go_ret2
          exact ⟨_, by first | rfl | (simp [errW_none, errW_some] <;> rfl) | (simp only [← hji12, ← hji15]; first | rfl | (simp [errW_none, errW_some] <;> rfl)) | (simp [*, errW_none, errW_some] <;> rfl), by (with_reducible repeat (first | apply Kd.R_alloc | apply Kd.R_drewN | apply Kd.R_drew)); exact Kd.R_mono HO492.out (fun _ hk => trivial), oB⟩
         ·rw [if_neg c17] at H
          exact absurd H (by simp)
        ·rw [if_neg c16] at H
         exact absurd H (by simp)
       ·rw [if_neg c14] at H
        exact absurd H (by simp)
      ·rw [if_neg c13] at H
       exact absurd H (by simp)
     ·rw [if_neg c11] at H
      have c11b0 : (t469 == 1) = false := beq_eq_false_iff_ne.mpr c11
      have c11b1 : (t469 != 1) = true := bne_iff_ne.mpr c11
      simp only [Option.some.injEq, Prod.mk.injEq] at H
      obtain ⟨rfl, rfl⟩ := H
      obtain ⟨⟨_, _⟩, _, _⟩ := z2 BK467
      go_wp2_with (first | ((with_reducible refine gate_callee (f := 28) rfl ?_); refine gl_ 22 Tryz.func28 (impl_Stat.calls kj4 _ _ l0_0 a0_1 a1 t468 t469 t470 t471 t474 t477 t480 _ (kC HR0_0) HC0_0.out A9.out) ?_; rintro e w33 ⟨v472, v475, v478, rfl, ho0, ho1, ho2, hb⟩; refine ⟨_, rfl, ?_⟩; have HO473 := Aside0.mk (Kd.R_lower ho0 (below_size oB)); have HO476 := Aside0.mk (Kd.R_lower ho1 (below_size oB)); have HO479 := Aside0.mk (Kd.R_lower ho2 (below_size oB)); replace BK467 := kb_ BK467 hb; replace HB := Aside0.mk (below_step oB hb); (try clear ho1); (try clear ho2)) | ((with_reducible refine gate_dst (N := 10) rfl ?_); refine bx_ 10 #[.int .i64 0, .int .i64 0, .int .i64 0, .slice none 0 0, .slice none 0 0, .slice none 0 0] 51 ?_; intro gb481 hg w34 hbox hb; have BK481 := Aside0.mk (hbox); have GW481 := gs_ hg; have NB467_481 := nl_ hg BK467; have NB481_467 := nr_ hg BK467; replace HO473 := kr_ HO473 hb; replace HO476 := kr_ HO476 hb; replace HO479 := kr_ HO479 hb; replace BK467 := kb_ BK467 hb; replace HB := Aside0.mk (below_step oB hb); clear hb hbox hg; have hnb35 := NB481_467.out; have hnc35 := NB467_481.out; obtain ⟨⟨_, _, _, _, _, _⟩, _, _, _, _, _, _⟩ := z6 BK481; obtain ⟨Ao37, co37, eo37⟩ := Kd.R_slice HO473.out; subst eo37; obtain ⟨Ao38, co38, eo38⟩ := Kd.R_slice HO476.out; subst eo38; obtain ⟨Ao39, co39, eo39⟩ := Kd.R_slice HO479.out; subst eo39))
      go_ret2
      exact ⟨_, oE, by first | exact Kd.R_nil _ _ _ _ _ | exact Kd.N_nil _ _ _ _ _ | exact Kd.V_nil _ _ _ _ _ | exact Kd.Q_nil _ _ _ _ _ | exact Kd.S_nil _ _ _ _ _, oB⟩
    ·rw [if_neg c10] at H
     have c10b0 : (t480 == 0) = false := beq_eq_false_iff_ne.mpr c10
     have c10b1 : (t480 != 0) = true := bne_iff_ne.mpr c10
     simp only [Option.some.injEq, Prod.mk.injEq] at H
     obtain ⟨rfl, rfl⟩ := H
     obtain ⟨⟨_, _⟩, _, _⟩ := z2 BK467
     go_wp2_with (first | ((with_reducible refine gate_callee (f := 28) rfl ?_); refine gl_ 22 Tryz.func28 (impl_Stat.calls kj4 _ _ l0_0 a0_1 a1 t468 t469 t470 t471 t474 t477 t480 _ (kC HR0_0) HC0_0.out A9.out) ?_; rintro e w41 ⟨v472, v475, v478, rfl, ho0, ho1, ho2, hb⟩; refine ⟨_, rfl, ?_⟩; have HO473 := Aside0.mk (Kd.R_lower ho0 (below_size oB)); have HO476 := Aside0.mk (Kd.R_lower ho1 (below_size oB)); have HO479 := Aside0.mk (Kd.R_lower ho2 (below_size oB)); replace BK467 := kb_ BK467 hb; replace HB := Aside0.mk (below_step oB hb); (try clear ho1); (try clear ho2)) | ((with_reducible refine gate_dst (N := 10) rfl ?_); refine bx_ 10 #[.int .i64 0, .int .i64 0, .int .i64 0, .slice none 0 0, .slice none 0 0, .slice none 0 0] 51 ?_; intro gb481 hg w42 hbox hb; have BK481 := Aside0.mk (hbox); have GW481 := gs_ hg; have NB467_481 := nl_ hg BK467; have NB481_467 := nr_ hg BK467; replace HO473 := kr_ HO473 hb; replace HO476 := kr_ HO476 hb; replace HO479 := kr_ HO479 hb; replace BK467 := kb_ BK467 hb; replace HB := Aside0.mk (below_step oB hb); clear hb hbox hg; have hnb43 := NB481_467.out; have hnc43 := NB467_481.out; obtain ⟨⟨_, _, _, _, _, _⟩, _, _, _, _, _, _⟩ := z6 BK481; obtain ⟨Ao45, co45, eo45⟩ := Kd.R_slice HO473.out; subst eo45; obtain ⟨Ao46, co46, eo46⟩ := Kd.R_slice HO476.out; subst eo46; obtain ⟨Ao47, co47, eo47⟩ := Kd.R_slice HO479.out; subst eo47))
     go_ret2
     exact ⟨_, oE, by first | exact Kd.R_nil _ _ _ _ _ | exact Kd.N_nil _ _ _ _ _ | exact Kd.V_nil _ _ _ _ _ | exact Kd.Q_nil _ _ _ _ _ | exact Kd.S_nil _ _ _ _ _, oB⟩

/-! ### impl_HardLink: function 27 -/
def impl_HardLink.j0 : Nat → ByteArray → ByteArray → Bool → List (S51) → Int → Option ((List (S51)) × Int × Int)
 | 0, _, _, _, _, _ => none
 | k + 1, x1, x2, x22, x494000, x494001 => if x22 = true then (some (x494000, x494001, 1)) else ((impl_fileAt.f k x494000 x494001 x1).bind fun bt503 => (if bt503.2.2.2.2.2.2 = 0 then ((impl_spotOf.f k x494000 x494001 x2).bind fun bt517 => (if bt517.2.2.2.2.2.2.2 = 0 then ((impl_EntOf.f k bt517.1 bt517.2.1 bt517.2.2.1 bt517.2.2.2.1 bt517.2.2.2.2.1 bt517.2.2.2.2.2.1 bt517.2.2.2.2.2.2.1).bind fun t532 => (if t532 = 0 then (if (bt517.2.2.2.2.1.length : Int) = 10 then (some (x494000, x494001, 5)) else ((impl_spot_enter.f k bt517.1 bt517.2.1 bt517.2.2.1 bt517.2.2.2.1 bt517.2.2.2.2.1 bt517.2.2.2.2.2.1 bt517.2.2.2.2.2.2.1 x494000 x494001 bt503.1).bind fun bt533 => ((impl_SetInode.f k bt533.1 bt533.2 bt503.1 bt503.2.1 (wrap64 (bt503.2.2.1 + 1)) bt503.2.2.2.1 bt503.2.2.2.2.1 bt503.2.2.2.2.2.1).bind fun bt537 => (some (bt537.1, bt537.2, 0))))) else (some (x494000, x494001, 4)))) else (some (x494000, x494001, bt517.2.2.2.2.2.2.2)))) else (some (x494000, x494001, bt503.2.2.2.2.2.2))))
def impl_HardLink.f (k : Nat) (l0_0 : List (S51)) (a0_1 : Int) (a1 : ByteArray) (a2 : ByteArray) : Option ((List (S51)) × Int × Int) := (impl_copyTab.f k l0_0 a0_1).bind fun bt495 => ((impl_ready.f k bt495.1 bt495.2 (([a1, a2] : List ByteArray))).bind fun t502 => (if t502 = true then (impl_HardLink.j0 k a1 a2 (a2.toList == ([47] : List UInt8)) bt495.1 bt495.2) else (impl_HardLink.j0 k a1 a2 true bt495.1 bt495.2)))
def impl_HardLink.T15 : Bool × List (List Nat × List Nat) := (true, [([], []), ([], []), ([], []), ([2], [2]), ([0, 1, 3], [0, 1, 3]), ([], []), ([4, 5, 4], [4, 5]), ([6, 6, 0, 1, 2, 3, 4, 5, 6], [6]), ([7, 0, 1, 2, 3, 4, 5, 6, 7], [])])
def impl_HardLink.B15 : List Nat := [0, 0, 0, 4, 15, 0, 63, 127, 255]
theorem impl_HardLink.tab15 : rtab .any (opsOf Tryz.f27 15) = impl_HardLink.T15 := by kernel_rfl
theorem impl_HardLink.bits15 : waitsOk impl_HardLink.T15.2 impl_HardLink.B15 = true := by kernel_rfl
set_option maxHeartbeats 8000000 in
set_option maxRecDepth 100000 in
theorem impl_HardLink.calls (k : Nat) (A0_0 : Option Addr) (c0_0 : Nat) (l0_0 : List (S51)) (a0_1 : Int) (a1 : ByteArray) (a2 : ByteArray) (r1 : List (S51)) (r2 : Int) (r3 : Int) (w : World) (hr0_0 : Kd.C k51 w A0_0 l0_0.length l0_0) (hc0_0 : l0_0.length ≤ c0_0) (h : impl_HardLink.f k l0_0 a0_1 a1 a2 = some (r1, r2, r3)) (hG : GOk w := by exact gk_ oB (by first | (with_reducible assumption) | assumption)) :
  Calls Tryz.prog 27 #[.agg #[.slice A0_0 l0_0.length c0_0, .int .i64 a0_1], .string a1, .string a2] w fun e w' => ∃ v0_ : Value, e = .returned (.tuple #[.agg #[v0_, .int .i64 r2], .int .i64 r3]) ∧ Kd.S k51 51 w' w.heap.size (fun _ => True) v0_ r1 ∧ Below w.heap.size w w' := by
 have HG := Aside0.mk hG
 clear hG
 have hu26 := Tryz.underlying26
 have hu51 := Tryz.underlying51
 have hu84 := Tryz.underlying84
 have HR0_0 := Aside0.mk hr0_0
 have HC0_0 := Aside0.mk hc0_0
 clear hr0_0 hc0_0
 have HB := Aside0.mk (Below.refl w.heap.size w)
 unfold impl_HardLink.f at h
 have H := h
 clear h
 replace H := bA H
 obtain ⟨⟨t495, t498⟩, A4, H⟩ := H
 try dsimp only at H
 have HC5 := Aside0.mk H
 clear H
 go_enter Tryz.func27, Tryz.ntmps27
 go_upto_region 2 with (first | ((with_reducible refine gate_dst (N := 3) rfl ?_); refine bx_ 3 #[.slice A0_0 l0_0.length c0_0, .int .i64 a0_1] 26 ?_; intro gb493 hg w6 hbox hb; have BK493 := Aside0.mk (hbox); have GW493 := gs_ hg; replace HB := Aside0.mk (below_step oB hb); clear hb hbox hg) | ((with_reducible refine gate_dst (N := 6) rfl ?_); refine bx_ 6 #[.slice none 0 0, .int .i64 0] 26 ?_; intro gb494 hg w7 hbox hb; have BK494 := Aside0.mk (hbox); have GW494 := gs_ hg; have NB493_494 := nl_ hg BK493; have NB494_493 := nr_ hg BK493; replace BK493 := kb_ BK493 hb; replace HB := Aside0.mk (below_step oB hb); clear hb hbox hg; have hnb8 := NB493_494.out; have hnc8 := NB494_493.out; obtain ⟨⟨_, _⟩, _, _⟩ := z2 BK493) | ((with_reducible refine gate_callee (f := 45) rfl ?_); refine gl_ 12 Tryz.func45 (impl_copyTab.calls k _ _ l0_0 a0_1 t495 t498 _ (kC HR0_0) HC0_0.out A4.out) ?_; rintro e w10 ⟨v496, rfl, ho0, hb⟩; refine ⟨_, rfl, ?_⟩; have HO497 := Aside0.mk (Kd.S_lower ho0 (below_size oB)); replace BK493 := kb_ BK493 hb; replace BK494 := kb_ BK494 hb; replace HB := Aside0.mk (below_step oB hb); obtain ⟨Ao11, co11, eo11⟩ := Kd.S_slice HO497.out; subst eo11; obtain ⟨⟨_, _⟩, _, _⟩ := z2 BK493))
 (try simp only [Act.put, List.setIfInBounds_toArray, List.set_cons_zero, List.set_cons_succ])
 go_cut [22] (fun v22 wc => ∃ (kq : Nat) (x22_4 : Bool), v22 = .bool x22_4 ∧ Aside0 (impl_HardLink.j0 kq a1 a2 x22_4 t495 t498 = some (r1, r2, r3)) ∧ Aside0 (kq ≤ k) ∧ Aside0 (Kd.S k51 51 wc w.heap.size (fun _ => True) (.slice Ao11 t495.length co11) t495) ∧ Aside0 (wc.heap[gb493]? = some (.cells #[(.slice Ao11 t495.length co11), .int .i64 t498] 26 (0, 0))) ∧ Aside0 (wc.heap[gb494]? = some (.cells #[(.slice none 0 0), .int .i64 0] 26 (0, 0))) ∧ Aside0 (Below w.heap.size w wc))
 case first =>
  have H := HC5.out
  clear HC5
  obtain ⟨y499, hy499⟩ : ∃ y_ : List ByteArray, y_ = (([a1, a2] : List ByteArray)) := ⟨_, rfl⟩
  replace H : ((impl_ready.f k t495 t498 y499).bind fun t502 => (if t502 = true then (impl_HardLink.j0 k a1 a2 (a2.toList == ([47] : List UInt8)) t495 t498) else (impl_HardLink.j0 k a1 a2 true t495 t498))) = some (r1, r2, r3) := by first | (rw [hy499]; with_reducible exact H) | (have H2_ := (Option.bind_some _ _).symm.trans H; rw [hy499]; with_reducible exact H2_) | (have H2_ := (Option.bind_some _ _).symm.trans H; with_reducible exact H2_) | with_reducible exact H | (rw [hy499]; exact H) | exact H
  have Ny499 := Aside0.mk hy499
  clear hy499
  replace H := bA H
  obtain ⟨t502, A13, H⟩ := H
  try dsimp only at H
  replace H := itB H
  rcases H with ⟨rfl, H⟩ | ⟨rfl, H⟩
  ·have H' := Aside0.mk H
   clear H
   have hnb15 := NB493_494.out
   have hnc15 := NB494_493.out
   obtain ⟨⟨_, _⟩, _, _⟩ := z2 BK493
   go_wp2_with (first | ((with_reducible refine gate_dst (N := 16) rfl ?_); refine Kd.R_lit Kd.string _ 9 ?hg (N := 16) ?hd (xs := ([a1, a2] : List ByteArray)) (inner := [.string a1, .string a2]) (ok := fun _ => True) (okp := fun _ => True) ?hr ?hp (fun _ hk => hk) trivial (Below.refl _ _) (Nat.le_refl _) (by simp) ?_; (case hd => rfl); (case hg => rfl); (case hr => first | (go_simp; done) | (go_simp; rfl)); (case hp => exact (Reps.one (show Kd.M Kd.string _ _ _ a1 [.string a1] from rfl) (Reps.one (show Kd.M Kd.string _ _ _ a2 [.string a2] from rfl) (Reps.none _ _)))); intro v500 w17 ho18 hb hg_ hnew_; clear hg_ hnew_; (first | rw [← Ny499.out] at ho18 | (simp only [Int.reduceToNat] at ho18; rw [← Ny499.out] at ho18)); have HO501 := Aside0.mk (Kd.R_lower ho18 (below_size oB)); replace HO497 := beS1 HO497 BK493 hb; replace BK493 := kp_ #[.slice Ao11 t495.length co11, .int .i64 t498] BK493 hb; replace BK494 := kb_ BK494 hb; replace HB := Aside0.mk (below_step oB hb); clear hb ho18; obtain ⟨Ao19, co19, eo19⟩ := Kd.R_slice HO501.out; subst eo19) | ((with_reducible refine gate_callee (f := 46) rfl ?_); refine gl_ 17 Tryz.func46 (impl_ready.calls k _ _ t495 t498 _ _ y499 true _ (rcS0 HO497) (rnS HO497) (kO HO501) (ko HO501) A13.out) ?_; rintro e w20 ⟨rfl, hb⟩; refine ⟨_, rfl, ?_⟩; replace HO497 := beS0 HO497 hb; replace HO501 := kr_ HO501 hb; replace BK493 := kb_ BK493 hb; replace BK494 := kb_ BK494 hb; replace HB := Aside0.mk (below_step oB hb)))
   go_meet
   case rel => exact ⟨_, ((a2.toList == ([47] : List UInt8))), oS, H', ⟨by first | omega | exact Nat.le_refl _⟩, ⟨by (with_reducible repeat (first | apply Kd.S_alloc | apply Kd.S_drewN | apply Kd.S_drew)); exact HO497.out⟩, ⟨oF BK493⟩, ⟨oF BK494⟩, ⟨oB⟩⟩
  ·have H' := Aside0.mk H
   clear H
   have hnb21 := NB493_494.out
   have hnc21 := NB494_493.out
   obtain ⟨⟨_, _⟩, _, _⟩ := z2 BK493
   go_wp2_with (first | ((with_reducible refine gate_dst (N := 16) rfl ?_); refine Kd.R_lit Kd.string _ 9 ?hg (N := 16) ?hd (xs := ([a1, a2] : List ByteArray)) (inner := [.string a1, .string a2]) (ok := fun _ => True) (okp := fun _ => True) ?hr ?hp (fun _ hk => hk) trivial (Below.refl _ _) (Nat.le_refl _) (by simp) ?_; (case hd => rfl); (case hg => rfl); (case hr => first | (go_simp; done) | (go_simp; rfl)); (case hp => exact (Reps.one (show Kd.M Kd.string _ _ _ a1 [.string a1] from rfl) (Reps.one (show Kd.M Kd.string _ _ _ a2 [.string a2] from rfl) (Reps.none _ _)))); intro v500 w23 ho24 hb hg_ hnew_; clear hg_ hnew_; (first | rw [← Ny499.out] at ho24 | (simp only [Int.reduceToNat] at ho24; rw [← Ny499.out] at ho24)); have HO501 := Aside0.mk (Kd.R_lower ho24 (below_size oB)); replace HO497 := beS1 HO497 BK493 hb; replace BK493 := kp_ #[.slice Ao11 t495.length co11, .int .i64 t498] BK493 hb; replace BK494 := kb_ BK494 hb; replace HB := Aside0.mk (below_step oB hb); clear hb ho24; obtain ⟨Ao25, co25, eo25⟩ := Kd.R_slice HO501.out; subst eo25) | ((with_reducible refine gate_callee (f := 46) rfl ?_); refine gl_ 17 Tryz.func46 (impl_ready.calls k _ _ t495 t498 _ _ y499 false _ (rcS0 HO497) (rnS HO497) (kO HO501) (ko HO501) A13.out) ?_; rintro e w26 ⟨rfl, hb⟩; refine ⟨_, rfl, ?_⟩; replace HO497 := beS0 HO497 hb; replace HO501 := kr_ HO501 hb; replace BK493 := kb_ BK493 hb; replace BK494 := kb_ BK494 hb; replace HB := Aside0.mk (below_step oB hb)))
   go_meet
   case rel => exact ⟨_, (true), oS, H', ⟨by first | omega | exact Nat.le_refl _⟩, ⟨by (with_reducible repeat (first | apply Kd.S_alloc | apply Kd.S_drewN | apply Kd.S_drew)); exact HO497.out⟩, ⟨oF BK493⟩, ⟨oF BK494⟩, ⟨oB⟩⟩
 case rest =>
  clear HC5
  obtain ⟨kq, x22_4, rfl, HA, HJ4, HO_494000, BK493, BK494, HB⟩ := hcut
  cases kq with
  | zero => exact absurd HA.out (by simp [impl_HardLink.j0])
  | succ kj4 =>
   have H := HA.out
   clear HA
   simp only [impl_HardLink.j0] at H
   replace H := itB H
   rcases H with ⟨rfl, H⟩ | ⟨rfl, H⟩
   ·simp only [Option.some.injEq, Prod.mk.injEq] at H
    obtain ⟨rfl, rfl, rfl⟩ := H
    have hnb28 := NB493_494.out
    have hnc28 := NB494_493.out
    obtain ⟨⟨_, _⟩, _, _⟩ := z2 BK493
    obtain ⟨⟨_, _⟩, _, _⟩ := z2 BK494
    go_wp2
    refine bodyPost_ret (results_ct rfl _ _ gb494 26 #[.slice Ao11 t495.length co11, .int .i64 t498] (0, 0) _ rfl (oP BK494) Tryz.underlying26 rfl (by kernel_rfl)) rfl ?_
    exact ⟨_, oE, by (with_reducible repeat (first | apply Kd.S_alloc | apply Kd.S_drewN | apply Kd.S_drew)); exact Kd.S_mono (Kd.S_far (p := ⟨gb494, 1, none⟩) (Kd.S_far (p := ⟨gb494, 0, none⟩) (Kd.S_types HO_494000.out BK494.out (by decide)) (fun _ hk => hk.2) (.slice Ao11 t495.length co11)) (fun _ hk => hk.2) (.int .i64 t498)) (fun _ hk => trivial), oB⟩
   ·replace H := bA H
    obtain ⟨⟨t503, t504, t505, t506, t509, t512, t515⟩, A31, H⟩ := H
    try dsimp only at H
    by_cases c32 : t515 = 0
    ·rw [if_pos c32] at H
     have c32b0 : (t515 == 0) = true := beq_iff_eq.mpr c32
     have c32b1 : (t515 != 0) = false := bne_eq_false_iff_eq.mpr c32
     clear c32
     replace H := bA H
     obtain ⟨⟨t517, t518, t519, t520, t523, t526, t529, t530⟩, A33, H⟩ := H
     try dsimp only at H
     by_cases c34 : t530 = 0
     ·rw [if_pos c34] at H
      have c34b0 : (t530 == 0) = true := beq_iff_eq.mpr c34
      have c34b1 : (t530 != 0) = false := bne_eq_false_iff_eq.mpr c34
      clear c34
      replace H := bA H
      obtain ⟨t532, A35, H⟩ := H
      try dsimp only at H
      by_cases c36 : t532 = 0
      ·rw [if_pos c36] at H
       have c36b0 : (t532 == 0) = true := beq_iff_eq.mpr c36
       have c36b1 : (t532 != 0) = false := bne_eq_false_iff_eq.mpr c36
       clear c36
       by_cases c37 : (t523.length : Int) = 10
       ·rw [if_pos c37] at H
        have c37b0 : ((t523.length : Int) == 10) = true := beq_iff_eq.mpr c37
        have c37b1 : ((t523.length : Int) != 10) = false := bne_eq_false_iff_eq.mpr c37
        clear c37
        simp only [Option.some.injEq, Prod.mk.injEq] at H
        obtain ⟨rfl, rfl, rfl⟩ := H
        have hnb38 := NB493_494.out
        have hnc38 := NB494_493.out
        obtain ⟨⟨_, _⟩, _, _⟩ := z2 BK493
        go_wp2_with (first | ((with_reducible refine gate_callee (f := 48) rfl ?_); refine gl_ 27 Tryz.func48 (impl_fileAt.calls kj4 _ _ t495 t498 a1 t503 t504 t505 t506 t509 t512 t515 _ (rcS0 HO_494000) (rnS HO_494000) A31.out) ?_; rintro e w40 ⟨v507, v510, v513, rfl, ho0, ho1, ho2, hb⟩; refine ⟨_, rfl, ?_⟩; have HO508 := Aside0.mk (Kd.R_lower ho0 (below_size oB)); have HO511 := Aside0.mk (Kd.R_lower ho1 (below_size oB)); have HO514 := Aside0.mk (Kd.R_lower ho2 (below_size oB)); replace HO_494000 := tdS3 (olS0 HO_494000 hb) (Kd.R_base ho0) (Kd.R_base ho1) (Kd.R_base ho2); replace BK493 := kb_ BK493 hb; replace BK494 := kb_ BK494 hb; replace HB := Aside0.mk (below_step oB hb); (try clear ho1); (try clear ho2)) | ((with_reducible refine gate_dst (N := 8) rfl ?_); refine bx_ 8 #[.int .i64 0, .int .i64 0, .int .i64 0, .slice none 0 0, .slice none 0 0, .slice none 0 0] 51 ?_; intro gb516 hg w41 hbox hb; have BK516 := Aside0.mk (hbox); have GW516 := gs_ hg; have NB493_516 := nl_ hg BK493; have NB516_493 := nr_ hg BK493; have NB494_516 := nl_ hg BK494; have NB516_494 := nr_ hg BK494; replace HO_494000 := Aside0.mk (Kd.S_below (Kd.S_elderB (nS0 HO_494000) gb516 (Nat.le_of_eq hg.symm)) hb); replace HO508 := kr_ HO508 hb; replace HO511 := kr_ HO511 hb; replace HO514 := kr_ HO514 hb; replace BK493 := kb_ BK493 hb; replace BK494 := kb_ BK494 hb; replace HB := Aside0.mk (below_step oB hb); clear hb hbox hg; have hnb42 := NB516_493.out; have hnc42 := NB493_516.out; have hnb43 := NB516_494.out; have hnc43 := NB494_516.out; obtain ⟨⟨_, _, _, _, _, _⟩, _, _, _, _, _, _⟩ := z6 BK516; obtain ⟨Ao45, co45, eo45⟩ := Kd.R_slice HO508.out; subst eo45; obtain ⟨Ao46, co46, eo46⟩ := Kd.R_slice HO511.out; subst eo46; obtain ⟨Ao47, co47, eo47⟩ := Kd.R_slice HO514.out; subst eo47; obtain ⟨⟨_, _⟩, _, _⟩ := z2 BK493) | ((with_reducible refine gate_callee (f := 57) rfl ?_); refine gl_ 37 Tryz.func57 (impl_spotOf.calls kj4 _ _ t495 t498 a2 t517 t518 t519 t520 t523 t526 t529 t530 _ (rcS2 HO_494000 gb516 (fun _ hk => hk.2)) (rnS HO_494000) A33.out) ?_; rintro e w49 ⟨v521, v524, v527, rfl, ho0, ho1, ho2, hb⟩; refine ⟨_, rfl, ?_⟩; have HO522 := Aside0.mk (Kd.R_lower (Kd.R_new' ho0 (ltR1 HO508 BK516)) (below_size oB)); have HO525 := Aside0.mk (Kd.R_lower (Kd.R_new' ho1 (ltR1 HO511 BK516)) (below_size oB)); have HO528 := Aside0.mk (Kd.R_lower (Kd.R_new' ho2 (ltR1 HO514 BK516)) (below_size oB)); replace HO_494000 := tdS3 (olS2 HO_494000 gb516 (fun _ hk => hk.2) hb) (Kd.R_base ho0) (Kd.R_base ho1) (Kd.R_base ho2); replace HO508 := elR1 HO508 BK516 (Kd.R_base ho0) hb; replace HO511 := elR1 HO511 BK516 (Kd.R_base ho1) hb; replace HO514 := elR1 HO514 BK516 (Kd.R_base ho2) hb; replace BK493 := kb_ BK493 hb; replace BK494 := kb_ BK494 hb; replace BK516 := kp_ #[.int .i64 t503, .int .i64 t504, .int .i64 t505, .slice Ao45 t506.length co45, .slice Ao46 t509.length co46, .slice Ao47 t512.length co47] BK516 hb; replace HB := Aside0.mk (below_step oB hb); (try clear hk); (try clear ho1); (try clear ho2)) | ((with_reducible refine gate_dst (N := 10) rfl ?_); refine bx_ 10 #[.int .i64 0, .int .i64 0, .int .i64 0, .slice none 0 0, .slice none 0 0, .slice none 0 0, .string (⟨#[]⟩ : ByteArray)] 84 ?_; intro gb531 hg w50 hbox hb; have BK531 := Aside0.mk (hbox); have GW531 := gs_ hg; have NB493_531 := nl_ hg BK493; have NB531_493 := nr_ hg BK493; have NB494_531 := nl_ hg BK494; have NB531_494 := nr_ hg BK494; have NB516_531 := nl_ hg BK516; have NB531_516 := nr_ hg BK516; replace HO_494000 := beS0 HO_494000 hb; replace HO508 := kr_ HO508 hb; replace HO511 := kr_ HO511 hb; replace HO514 := kr_ HO514 hb; replace HO522 := kr_ HO522 hb; replace HO525 := kr_ HO525 hb; replace HO528 := kr_ HO528 hb; replace BK493 := kb_ BK493 hb; replace BK494 := kb_ BK494 hb; replace BK516 := kb_ BK516 hb; replace HB := Aside0.mk (below_step oB hb); clear hb hbox hg; have hnb51 := NB531_493.out; have hnc51 := NB493_531.out; have hnb52 := NB531_494.out; have hnc52 := NB494_531.out; have hnb53 := NB531_516.out; have hnc53 := NB516_531.out; obtain ⟨⟨_, _, _, _, _, _, _⟩, _, _, _, _, _, _, _⟩ := z7 BK531; obtain ⟨Ao55, co55, eo55⟩ := Kd.R_slice HO522.out; subst eo55; obtain ⟨Ao56, co56, eo56⟩ := Kd.R_slice HO525.out; subst eo56; obtain ⟨Ao57, co57, eo57⟩ := Kd.R_slice HO528.out; subst eo57) | ((with_reducible refine gate_callee (f := 58) rfl ?_); refine gl_ 50 Tryz.func58 (impl_EntOf.calls kj4 t517 t518 t519 _ _ t520 _ _ t523 _ _ t526 t529 t532 _ (rcR1 HO522 BK531) (ko HO522) (rcR1 HO525 BK531) (ko HO525) (rcR1 HO528 BK531) (ko HO528) A35.out) ?_; rintro e w58 ⟨rfl, hb⟩; refine ⟨_, rfl, ?_⟩; replace HO_494000 := beS1 HO_494000 BK531 hb; replace HO508 := beR1 HO508 BK531 hb; replace HO511 := beR1 HO511 BK531 hb; replace HO514 := beR1 HO514 BK531 hb; replace HO522 := beR1 HO522 BK531 hb; replace HO525 := beR1 HO525 BK531 hb; replace HO528 := beR1 HO528 BK531 hb; replace BK493 := kb_ BK493 hb; replace BK494 := kb_ BK494 hb; replace BK516 := kb_ BK516 hb; replace BK531 := kp_ #[.int .i64 t517, .int .i64 t518, .int .i64 t519, .slice Ao55 t520.length co55, .slice Ao56 t523.length co56, .slice Ao57 t526.length co57, .string t529] BK531 hb; replace HB := Aside0.mk (below_step oB hb); (try clear hk); obtain ⟨⟨_, _, _, _, _, _, _⟩, _, _, _, _, _, _, _⟩ := z7 BK531; obtain ⟨⟨_, _⟩, _, _⟩ := z2 BK493; obtain ⟨⟨_, _⟩, _, _⟩ := z2 BK494))
        refine bodyPost_ret (results_ct rfl _ _ gb494 26 #[.slice Ao11 t495.length co11, .int .i64 t498] (0, 0) _ rfl (oP BK494) Tryz.underlying26 rfl (by kernel_rfl)) rfl ?_
        exact ⟨_, oE, by (with_reducible repeat (first | apply Kd.S_alloc | apply Kd.S_drewN | apply Kd.S_drew)); exact Kd.S_mono (Kd.S_far (p := ⟨gb494, 1, none⟩) (Kd.S_far (p := ⟨gb494, 0, none⟩) (Kd.S_types HO_494000.out BK494.out (by decide)) (fun _ hk => hk.2) (.slice Ao11 t495.length co11)) (fun _ hk => hk.2) (.int .i64 t498)) (fun _ hk => trivial), oB⟩
       ·rw [if_neg c37] at H
        have c37b0 : ((t523.length : Int) == 10) = false := beq_eq_false_iff_ne.mpr c37
        have c37b1 : ((t523.length : Int) != 10) = true := bne_iff_ne.mpr c37
        replace H := bA H
        obtain ⟨⟨t533, t536⟩, A62, H⟩ := H
        try dsimp only at H
        replace H := bA H
        obtain ⟨⟨t537, t540⟩, A63, H⟩ := H
        try dsimp only at H
        simp only [Option.some.injEq, Prod.mk.injEq] at H
        obtain ⟨rfl, rfl, rfl⟩ := H
        have hnb64 := NB493_494.out
        have hnc64 := NB494_493.out
        obtain ⟨⟨_, _⟩, _, _⟩ := z2 BK493
        try go_wp2_with (first | ((with_reducible refine gate_callee (f := 48) rfl ?_); refine gl_ 27 Tryz.func48 (impl_fileAt.calls kj4 _ _ t495 t498 a1 t503 t504 t505 t506 t509 t512 t515 _ (rcS0 HO_494000) (rnS HO_494000) A31.out) ?_; rintro e w66 ⟨v507, v510, v513, rfl, ho0, ho1, ho2, hb⟩; refine ⟨_, rfl, ?_⟩; have HO508 := Aside0.mk (Kd.R_lower ho0 (below_size oB)); have HO511 := Aside0.mk (Kd.R_lower ho1 (below_size oB)); have HO514 := Aside0.mk (Kd.R_lower ho2 (below_size oB)); replace HO_494000 := tdS3 (olS0 HO_494000 hb) (Kd.R_base ho0) (Kd.R_base ho1) (Kd.R_base ho2); replace BK493 := kb_ BK493 hb; replace BK494 := kb_ BK494 hb; replace HB := Aside0.mk (below_step oB hb); (try clear ho1); (try clear ho2)) | ((with_reducible refine gate_dst (N := 8) rfl ?_); refine bx_ 8 #[.int .i64 0, .int .i64 0, .int .i64 0, .slice none 0 0, .slice none 0 0, .slice none 0 0] 51 ?_; intro gb516 hg w67 hbox hb; have BK516 := Aside0.mk (hbox); have GW516 := gs_ hg; have NB493_516 := nl_ hg BK493; have NB516_493 := nr_ hg BK493; have NB494_516 := nl_ hg BK494; have NB516_494 := nr_ hg BK494; replace HO_494000 := Aside0.mk (Kd.S_below (Kd.S_elderB (nS0 HO_494000) gb516 (Nat.le_of_eq hg.symm)) hb); replace HO508 := kr_ HO508 hb; replace HO511 := kr_ HO511 hb; replace HO514 := kr_ HO514 hb; replace BK493 := kb_ BK493 hb; replace BK494 := kb_ BK494 hb; replace HB := Aside0.mk (below_step oB hb); clear hb hbox hg; have hnb68 := NB516_493.out; have hnc68 := NB493_516.out; have hnb69 := NB516_494.out; have hnc69 := NB494_516.out; obtain ⟨⟨_, _, _, _, _, _⟩, _, _, _, _, _, _⟩ := z6 BK516; obtain ⟨Ao71, co71, eo71⟩ := Kd.R_slice HO508.out; subst eo71; obtain ⟨Ao72, co72, eo72⟩ := Kd.R_slice HO511.out; subst eo72; obtain ⟨Ao73, co73, eo73⟩ := Kd.R_slice HO514.out; subst eo73; obtain ⟨⟨_, _⟩, _, _⟩ := z2 BK493) | ((with_reducible refine gate_callee (f := 57) rfl ?_); refine gl_ 37 Tryz.func57 (impl_spotOf.calls kj4 _ _ t495 t498 a2 t517 t518 t519 t520 t523 t526 t529 t530 _ (rcS2 HO_494000 gb516 (fun _ hk => hk.2)) (rnS HO_494000) A33.out) ?_; rintro e w75 ⟨v521, v524, v527, rfl, ho0, ho1, ho2, hb⟩; refine ⟨_, rfl, ?_⟩; have HO522 := Aside0.mk (Kd.R_lower (Kd.R_new' ho0 (ltR1 HO508 BK516)) (below_size oB)); have HO525 := Aside0.mk (Kd.R_lower (Kd.R_new' ho1 (ltR1 HO511 BK516)) (below_size oB)); have HO528 := Aside0.mk (Kd.R_lower (Kd.R_new' ho2 (ltR1 HO514 BK516)) (below_size oB)); replace HO_494000 := tdS3 (olS2 HO_494000 gb516 (fun _ hk => hk.2) hb) (Kd.R_base ho0) (Kd.R_base ho1) (Kd.R_base ho2); replace HO508 := elR1 HO508 BK516 (Kd.R_base ho0) hb; replace HO511 := elR1 HO511 BK516 (Kd.R_base ho1) hb; replace HO514 := elR1 HO514 BK516 (Kd.R_base ho2) hb; replace BK493 := kb_ BK493 hb; replace BK494 := kb_ BK494 hb; replace BK516 := kp_ #[.int .i64 t503, .int .i64 t504, .int .i64 t505, .slice Ao71 t506.length co71, .slice Ao72 t509.length co72, .slice Ao73 t512.length co73] BK516 hb; replace HB := Aside0.mk (below_step oB hb); (try clear hk); (try clear ho1); (try clear ho2)) | ((with_reducible refine gate_dst (N := 10) rfl ?_); refine bx_ 10 #[.int .i64 0, .int .i64 0, .int .i64 0, .slice none 0 0, .slice none 0 0, .slice none 0 0, .string (⟨#[]⟩ : ByteArray)] 84 ?_; intro gb531 hg w76 hbox hb; have BK531 := Aside0.mk (hbox); have GW531 := gs_ hg; have NB493_531 := nl_ hg BK493; have NB531_493 := nr_ hg BK493; have NB494_531 := nl_ hg BK494; have NB531_494 := nr_ hg BK494; have NB516_531 := nl_ hg BK516; have NB531_516 := nr_ hg BK516; replace HO_494000 := beS0 HO_494000 hb; replace HO508 := kr_ HO508 hb; replace HO511 := kr_ HO511 hb; replace HO514 := kr_ HO514 hb; replace HO522 := kr_ HO522 hb; replace HO525 := kr_ HO525 hb; replace HO528 := kr_ HO528 hb; replace BK493 := kb_ BK493 hb; replace BK494 := kb_ BK494 hb; replace BK516 := kb_ BK516 hb; replace HB := Aside0.mk (below_step oB hb); clear hb hbox hg; have hnb77 := NB531_493.out; have hnc77 := NB493_531.out; have hnb78 := NB531_494.out; have hnc78 := NB494_531.out; have hnb79 := NB531_516.out; have hnc79 := NB516_531.out; obtain ⟨⟨_, _, _, _, _, _, _⟩, _, _, _, _, _, _, _⟩ := z7 BK531; obtain ⟨Ao81, co81, eo81⟩ := Kd.R_slice HO522.out; subst eo81; obtain ⟨Ao82, co82, eo82⟩ := Kd.R_slice HO525.out; subst eo82; obtain ⟨Ao83, co83, eo83⟩ := Kd.R_slice HO528.out; subst eo83) | ((with_reducible refine gate_callee (f := 58) rfl ?_); refine gl_ 50 Tryz.func58 (impl_EntOf.calls kj4 t517 t518 t519 _ _ t520 _ _ t523 _ _ t526 t529 t532 _ (rcR1 HO522 BK531) (ko HO522) (rcR1 HO525 BK531) (ko HO525) (rcR1 HO528 BK531) (ko HO528) A35.out) ?_; rintro e w84 ⟨rfl, hb⟩; refine ⟨_, rfl, ?_⟩; replace HO_494000 := beS1 HO_494000 BK531 hb; replace HO508 := beR1 HO508 BK531 hb; replace HO511 := beR1 HO511 BK531 hb; replace HO514 := beR1 HO514 BK531 hb; replace HO522 := beR1 HO522 BK531 hb; replace HO525 := beR1 HO525 BK531 hb; replace HO528 := beR1 HO528 BK531 hb; replace BK493 := kb_ BK493 hb; replace BK494 := kb_ BK494 hb; replace BK516 := kb_ BK516 hb; replace BK531 := kp_ #[.int .i64 t517, .int .i64 t518, .int .i64 t519, .slice Ao81 t520.length co81, .slice Ao82 t523.length co82, .slice Ao83 t526.length co83, .string t529] BK531 hb; replace HB := Aside0.mk (below_step oB hb); (try clear hk); obtain ⟨⟨_, _, _, _, _, _, _⟩, _, _, _, _, _, _, _⟩ := z7 BK531; obtain ⟨⟨_, _, _, _, _, _⟩, _, _, _, _, _, _⟩ := z6 BK516))
        have n0_ : Aside0 (Kd.S k51 51 (w84.setCell ⟨gb516, 2, none⟩ (.int .i64 (wrap64 (t505 + 1)))) w.heap.size (fun k_ => some k_ ≠ (.slice Ao71 t506.length co71 : Value).ownBlock ∧ some k_ ≠ (.slice Ao72 t509.length co72 : Value).ownBlock ∧ some k_ ≠ (.slice Ao73 t512.length co73 : Value).ownBlock ∧ some k_ ≠ (.slice Ao81 t520.length co81 : Value).ownBlock ∧ some k_ ≠ (.slice Ao82 t523.length co82 : Value).ownBlock ∧ some k_ ≠ (.slice Ao83 t526.length co83 : Value).ownBlock ∧ k_ ≠ gb516) (.slice Ao11 t495.length co11) t495) := ⟨by (with_reducible repeat (first | apply Kd.S_alloc | apply Kd.S_drewN | apply Kd.S_drew)); exact Kd.S_mono (Kd.S_far (p := ⟨gb516, 2, none⟩) (Kd.S_mono HO_494000.out (fun k_ hk => (⟨hk, hk.1.1.1.2⟩ : _ ∧ k_ ≠ gb516))) (fun _ hk => hk.2) (.int .i64 (wrap64 (t505 + 1)))) (fun _ hk => ⟨hk.1.1.1.1.1.1.1.2, ⟨hk.1.1.1.1.1.1.2, ⟨hk.1.1.1.1.1.2, ⟨hk.1.1.1.2, ⟨hk.1.1.2, ⟨hk.1.2, hk.1.1.1.1.2⟩⟩⟩⟩⟩⟩)⟩
        have n1_ : Aside0 (Kd.R (Kd.int .u8) 5 (w84.setCell ⟨gb516, 2, none⟩ (.int .i64 (wrap64 (t505 + 1)))) w.heap.size (fun k_ => some k_ ≠ (.slice Ao81 t520.length co81 : Value).ownBlock) (.slice Ao71 t506.length co71) t506) := ⟨by (with_reducible repeat (first | apply Kd.R_alloc | apply Kd.R_drewN | apply Kd.R_drew)); exact Kd.R_mono (Kd.R_far (p := ⟨gb516, 2, none⟩) (Kd.R_types HO508.out BK516.out (by decide)) (fun _ hk => hk.2) (.int .i64 (wrap64 (t505 + 1)))) (fun _ hk => hk.1.2)⟩
        have n2_ : Aside0 (Kd.R k65 65 (w84.setCell ⟨gb516, 2, none⟩ (.int .i64 (wrap64 (t505 + 1)))) w.heap.size (fun k_ => some k_ ≠ (.slice Ao82 t523.length co82 : Value).ownBlock) (.slice Ao72 t509.length co72) t509) := ⟨by (with_reducible repeat (first | apply Kd.R_alloc | apply Kd.R_drewN | apply Kd.R_drew)); exact Kd.R_mono (Kd.R_far (p := ⟨gb516, 2, none⟩) (Kd.R_types HO511.out BK516.out (by decide)) (fun _ hk => hk.2) (.int .i64 (wrap64 (t505 + 1)))) (fun _ hk => hk.1.2)⟩
        have n3_ : Aside0 (Kd.R k71 71 (w84.setCell ⟨gb516, 2, none⟩ (.int .i64 (wrap64 (t505 + 1)))) w.heap.size (fun k_ => some k_ ≠ (.slice Ao83 t526.length co83 : Value).ownBlock) (.slice Ao73 t512.length co73) t512) := ⟨by (with_reducible repeat (first | apply Kd.R_alloc | apply Kd.R_drewN | apply Kd.R_drew)); exact Kd.R_mono (Kd.R_far (p := ⟨gb516, 2, none⟩) (Kd.R_types HO514.out BK516.out (by decide)) (fun _ hk => hk.2) (.int .i64 (wrap64 (t505 + 1)))) (fun _ hk => hk.1.2)⟩
        have n4_ : Aside0 (Kd.R (Kd.int .u8) 5 (w84.setCell ⟨gb516, 2, none⟩ (.int .i64 (wrap64 (t505 + 1)))) w.heap.size (fun k_ => some k_ ≠ (.slice Ao71 t506.length co71 : Value).ownBlock) (.slice Ao81 t520.length co81) t520) := ⟨by (with_reducible repeat (first | apply Kd.R_alloc | apply Kd.R_drewN | apply Kd.R_drew)); exact Kd.R_mono (Kd.R_far (p := ⟨gb516, 2, none⟩) (Kd.R_types HO522.out BK516.out (by decide)) (fun _ hk => hk.2) (.int .i64 (wrap64 (t505 + 1)))) (fun _ hk => hk.1.2)⟩
        have n5_ : Aside0 (Kd.R k65 65 (w84.setCell ⟨gb516, 2, none⟩ (.int .i64 (wrap64 (t505 + 1)))) w.heap.size (fun k_ => some k_ ≠ (.slice Ao72 t509.length co72 : Value).ownBlock) (.slice Ao82 t523.length co82) t523) := ⟨by (with_reducible repeat (first | apply Kd.R_alloc | apply Kd.R_drewN | apply Kd.R_drew)); exact Kd.R_mono (Kd.R_far (p := ⟨gb516, 2, none⟩) (Kd.R_types HO525.out BK516.out (by decide)) (fun _ hk => hk.2) (.int .i64 (wrap64 (t505 + 1)))) (fun _ hk => hk.1.2)⟩
        have n6_ : Aside0 (Kd.R k71 71 (w84.setCell ⟨gb516, 2, none⟩ (.int .i64 (wrap64 (t505 + 1)))) w.heap.size (fun k_ => some k_ ≠ (.slice Ao73 t512.length co73 : Value).ownBlock) (.slice Ao83 t526.length co83) t526) := ⟨by (with_reducible repeat (first | apply Kd.R_alloc | apply Kd.R_drewN | apply Kd.R_drew)); exact Kd.R_mono (Kd.R_far (p := ⟨gb516, 2, none⟩) (Kd.R_types HO528.out BK516.out (by decide)) (fun _ hk => hk.2) (.int .i64 (wrap64 (t505 + 1)))) (fun _ hk => hk.1.2)⟩
        have n7_ : Aside0 ((w84.setCell ⟨gb516, 2, none⟩ (.int .i64 (wrap64 (t505 + 1)))).heap[gb493]? = some (.cells #[.slice Ao11 t495.length co11, .int .i64 t498] 26 (0, 0))) := ⟨oF BK493⟩
        have n8_ : Aside0 ((w84.setCell ⟨gb516, 2, none⟩ (.int .i64 (wrap64 (t505 + 1)))).heap[gb494]? = some (.cells #[.slice none 0 0, .int .i64 0] 26 (0, 0))) := ⟨oF BK494⟩
        have n9_ : Aside0 ((w84.setCell ⟨gb516, 2, none⟩ (.int .i64 (wrap64 (t505 + 1)))).heap[gb516]? = some (.cells #[.int .i64 t503, .int .i64 t504, .int .i64 (wrap64 (t505 + 1)), .slice Ao71 t506.length co71, .slice Ao72 t509.length co72, .slice Ao73 t512.length co73] 51 (0, 0))) := ⟨oP BK516⟩
        have n10_ : Aside0 ((w84.setCell ⟨gb516, 2, none⟩ (.int .i64 (wrap64 (t505 + 1)))).heap[gb531]? = some (.cells #[.int .i64 t517, .int .i64 t518, .int .i64 t519, .slice Ao81 t520.length co81, .slice Ao82 t523.length co82, .slice Ao83 t526.length co83, .string t529] 84 (0, 0))) := ⟨oF BK531⟩
        have n11_ : Aside0 (Below w.heap.size w (w84.setCell ⟨gb516, 2, none⟩ (.int .i64 (wrap64 (t505 + 1))))) := ⟨oB⟩
        (try clear HO_494000)
        (try clear HO508)
        (try clear HO511)
        (try clear HO514)
        (try clear HO522)
        (try clear HO525)
        (try clear HO528)
        (try clear BK493)
        (try clear BK494)
        (try clear BK516)
        (try clear BK531)
        (try clear HB)
        generalize (w84.setCell ⟨gb516, 2, none⟩ (.int .i64 (wrap64 (t505 + 1)))) = w87 at n0_ n1_ n2_ n3_ n4_ n5_ n6_ n7_ n8_ n9_ n10_ n11_ ⊢
        have HO_494000 := n0_
        have HO508 := n1_
        have HO511 := n2_
        have HO514 := n3_
        have HO522 := n4_
        have HO525 := n5_
        have HO528 := n6_
        have BK493 := n7_
        have BK494 := n8_
        have BK516 := n9_
        have BK531 := n10_
        have HB := n11_
        clear n0_ n1_ n2_ n3_ n4_ n5_ n6_ n7_ n8_ n9_ n10_ n11_
        replace HO_494000 := Aside0.mk (Kd.S_drew HO_494000.out)
        replace HO508 := Aside0.mk (Kd.R_drew HO508.out)
        replace HO511 := Aside0.mk (Kd.R_drew HO511.out)
        replace HO514 := Aside0.mk (Kd.R_drew HO514.out)
        replace HO522 := Aside0.mk (Kd.R_drew HO522.out)
        replace HO525 := Aside0.mk (Kd.R_drew HO525.out)
        replace HO528 := Aside0.mk (Kd.R_drew HO528.out)
        replace BK493 := Aside0.mk (blk_drew BK493.out)
        replace BK494 := Aside0.mk (blk_drew BK494.out)
        replace BK516 := Aside0.mk (blk_drew BK516.out)
        replace BK531 := Aside0.mk (blk_drew BK531.out)
        replace HB := Aside0.mk (below_drew1 HB.out)
        refine st_ 9 (fun w' => w'.cell? ⟨gb531, 0, none⟩ = some (.int .i64 t517) ∧ w'.cell? ⟨gb531, 1, none⟩ = some (.int .i64 t518) ∧ w'.cell? ⟨gb531, 2, none⟩ = some (.int .i64 t519) ∧ w'.cell? ⟨gb531, 3, none⟩ = some (.slice Ao81 t520.length co81) ∧ w'.cell? ⟨gb531, 4, none⟩ = some (.slice Ao82 t523.length co82) ∧ w'.cell? ⟨gb531, 5, none⟩ = some (.slice Ao83 t526.length co83) ∧ w'.cell? ⟨gb531, 6, none⟩ = some (.string t529) ∧ w'.cell? ⟨gb493, 0, none⟩ = some (.slice Ao11 t495.length co11) ∧ w'.cell? ⟨gb493, 1, none⟩ = some (.int .i64 t498) ∧ w'.cell? ⟨gb516, 0, none⟩ = some (.int .i64 t503) ∧ w'.cell? ⟨gb516, 1, none⟩ = some (.int .i64 t504) ∧ w'.cell? ⟨gb516, 2, none⟩ = some (.int .i64 (wrap64 (t505 + 1))) ∧ w'.cell? ⟨gb516, 3, none⟩ = some (.slice Ao71 t506.length co71) ∧ w'.cell? ⟨gb516, 4, none⟩ = some (.slice Ao72 t509.length co72) ∧ w'.cell? ⟨gb516, 5, none⟩ = some (.slice Ao73 t512.length co73)) impl_HardLink.tab15 impl_HardLink.bits15 oH (fun hHeld HT_ HW_ => ?_)
        generalize w87.drew = w88 at HO_494000 HO508 HO511 HO514 HO522 HO525 HO528 BK493 BK494 BK516 BK531 HB hHeld ⊢
        refine pu_ 2 66 HT_ ?_
        refine ta_ 0 64 HT_ HW_ hHeld ?_
        refine ta_ 1 65 HT_ HW_ hHeld ?_
        refine ta_ 3 67 HT_ HW_ hHeld ?_
        refine ta_ 5 69 HT_ HW_ hHeld ?_
        refine on_ 4 68 HT_ (fun K hK => ?_)
        refine gr_ 68 Tryz.func59 (impl_spot_enter.calls kj4 t517 t518 t519 _ _ t520 _ _ t523 _ _ t526 t529 _ _ t495 t498 t503 t533 t536 _ (kO HO522) (ko HO522) (kO HO525) (ko HO525) (kO HO528) (ko HO528) (rcS0 HO_494000) (rnS HO_494000) A62.out) ?_
        rintro e w89 ⟨v534, rfl, ho0, hb⟩
        refine ⟨_, rfl, ?_⟩
        have HO535 := Aside0.mk (Kd.S_lower (Kd.S_newB (Kd.S_new' (Kd.S_new' (Kd.S_new' (Kd.S_new' (Kd.S_new' (Kd.S_new' (Kd.S_new' ho0 (ltS0 HO_494000)) (kl_ HO508)) (kl_ HO511)) (kl_ HO514)) (kl_ HO522)) (kl_ HO525)) (kl_ HO528)) (g := gb516) (o := .cells #[.int .i64 t503, .int .i64 t504, .int .i64 (wrap64 (t505 + 1)), .slice Ao71 t506.length co71, .slice Ao72 t509.length co72, .slice Ao73 t512.length co73] 51 (0, 0)) (oF BK516)) (below_size oB))
        replace HO_494000 := elS0 HO_494000 (Kd.S_base ho0) hb
        replace HO508 := kr_ HO508 hb
        replace HO511 := kr_ HO511 hb
        replace HO514 := kr_ HO514 hb
        replace HO522 := kr_ HO522 hb
        replace HO525 := kr_ HO525 hb
        replace HO528 := kr_ HO528 hb
        replace BK493 := kb_ BK493 hb
        replace BK494 := kb_ BK494 hb
        replace BK516 := kb_ BK516 hb
        replace BK531 := kb_ BK531 hb
        replace HB := Aside0.mk (below_step oB hb)
        obtain ⟨Ao90, co90, eo90⟩ := Kd.S_slice HO535.out
        (first | subst eo90 | (injection eo90 with f1_ f2_ f3_; have f4_ := f1_.symm; have f5_ := f3_.symm; clear f1_ f2_ f3_; subst f4_; subst f5_))
        refine hk_ hK 68 oH (fun hHeld => ?_)
        clear hK K
        refine on_ 6 70 HT_ (fun K hK => ?_)
        refine gr_ 70 Tryz.func50 (impl_SetInode.calls kj4 _ _ t533 t536 t503 t504 (wrap64 (t505 + 1)) _ _ t506 _ _ t509 _ _ t512 t537 t540 _ (rcS0 HO535) (rnS HO535) (kO HO508) (ko HO508) (kO HO511) (ko HO511) (kO HO514) (ko HO514) A63.out) ?_
        rintro e w91 ⟨v538, rfl, ho0, hb⟩
        refine ⟨_, rfl, ?_⟩
        have HO539 := Aside0.mk (Kd.S_lower (Kd.S_newB (Kd.S_new' (Kd.S_new' (Kd.S_new' (Kd.S_new' (Kd.S_new' (Kd.S_new' (Kd.S_new' (Kd.S_new' ho0 (ltS0 HO_494000)) (kl_ HO508)) (kl_ HO511)) (kl_ HO514)) (kl_ HO522)) (kl_ HO525)) (kl_ HO528)) (ltS0 HO535)) (g := gb516) (o := .cells #[.int .i64 t503, .int .i64 t504, .int .i64 (wrap64 (t505 + 1)), .slice Ao71 t506.length co71, .slice Ao72 t509.length co72, .slice Ao73 t512.length co73] 51 (0, 0)) (oF BK516)) (below_size oB))
        replace HO_494000 := elS0 HO_494000 (Kd.S_base ho0) hb
        replace HO508 := kr_ HO508 hb
        replace HO511 := kr_ HO511 hb
        replace HO514 := kr_ HO514 hb
        replace HO522 := kr_ HO522 hb
        replace HO525 := kr_ HO525 hb
        replace HO528 := kr_ HO528 hb
        replace HO535 := elS0 HO535 (Kd.S_base ho0) hb
        replace BK493 := kb_ BK493 hb
        replace BK494 := kb_ BK494 hb
        replace BK516 := kb_ BK516 hb
        replace BK531 := kb_ BK531 hb
        replace HB := Aside0.mk (below_step oB hb)
        obtain ⟨Ao92, co92, eo92⟩ := Kd.S_slice HO539.out
        (first | subst eo92 | (injection eo92 with f1_ f2_ f3_; have f4_ := f1_.symm; have f5_ := f3_.symm; clear f1_ f2_ f3_; subst f4_; subst f5_))
        refine hk_ hK 70 oH (fun hHeld => ?_)
        clear hK K
        refine one_ (i := 7) (N := none) (lb 9 255) rfl rfl (one_of HT_.out (by kernel_rfl)) (by decide) (fun K hK => ?_)
        have hs93 : w91.cell? ⟨gb494, 0, none⟩ = some (.slice none 0 0) := (blk_cell BK494.out 0).trans rfl
        have hfs93 := blk_frozen BK494.out 0
        have hns93_0 := NB493_494.out
        have hns93_2 := NB516_494.out
        have hns93_3 := NB531_494.out
        have hms93_0 := NB494_493.out
        have hms93_2 := NB494_516.out
        have hms93_3 := NB494_531.out
        have hs94 : w91.cell? ⟨gb494, 1, none⟩ = some (.int .i64 0) := (blk_cell BK494.out 1).trans rfl
        have hfs94 := blk_frozen BK494.out 1
        have hns94_0 := NB493_494.out
        have hns94_2 := NB516_494.out
        have hns94_3 := NB531_494.out
        have hms94_0 := NB494_493.out
        have hms94_2 := NB494_516.out
        have hms94_3 := NB494_531.out
        refine skip_ (w1 := ?_) (by rfl) rfl ?_ ?_
        rotate_left
        ·go_simp
         rfl
        refine hK.out _ _ ⟨((cell_far (p := ⟨gb494, _, none⟩) NB531_494.out _).trans (((cell_far (p := ⟨gb494, _, none⟩) NB531_494.out _).trans (hHeld.1)))), ((cell_far (p := ⟨gb494, _, none⟩) NB531_494.out _).trans (((cell_far (p := ⟨gb494, _, none⟩) NB531_494.out _).trans (hHeld.2.1)))), ((cell_far (p := ⟨gb494, _, none⟩) NB531_494.out _).trans (((cell_far (p := ⟨gb494, _, none⟩) NB531_494.out _).trans (hHeld.2.2.1)))), ((cell_far (p := ⟨gb494, _, none⟩) NB531_494.out _).trans (((cell_far (p := ⟨gb494, _, none⟩) NB531_494.out _).trans (hHeld.2.2.2.1)))), ((cell_far (p := ⟨gb494, _, none⟩) NB531_494.out _).trans (((cell_far (p := ⟨gb494, _, none⟩) NB531_494.out _).trans (hHeld.2.2.2.2.1)))), ((cell_far (p := ⟨gb494, _, none⟩) NB531_494.out _).trans (((cell_far (p := ⟨gb494, _, none⟩) NB531_494.out _).trans (hHeld.2.2.2.2.2.1)))), ((cell_far (p := ⟨gb494, _, none⟩) NB531_494.out _).trans (((cell_far (p := ⟨gb494, _, none⟩) NB531_494.out _).trans (hHeld.2.2.2.2.2.2.1)))), ((cell_far (p := ⟨gb494, _, none⟩) NB493_494.out _).trans (((cell_far (p := ⟨gb494, _, none⟩) NB493_494.out _).trans (hHeld.2.2.2.2.2.2.2.1)))), ((cell_far (p := ⟨gb494, _, none⟩) NB493_494.out _).trans (((cell_far (p := ⟨gb494, _, none⟩) NB493_494.out _).trans (hHeld.2.2.2.2.2.2.2.2.1)))), ((cell_far (p := ⟨gb494, _, none⟩) NB516_494.out _).trans (((cell_far (p := ⟨gb494, _, none⟩) NB516_494.out _).trans (hHeld.2.2.2.2.2.2.2.2.2.1)))), ((cell_far (p := ⟨gb494, _, none⟩) NB516_494.out _).trans (((cell_far (p := ⟨gb494, _, none⟩) NB516_494.out _).trans (hHeld.2.2.2.2.2.2.2.2.2.2.1)))), ((cell_far (p := ⟨gb494, _, none⟩) NB516_494.out _).trans (((cell_far (p := ⟨gb494, _, none⟩) NB516_494.out _).trans (hHeld.2.2.2.2.2.2.2.2.2.2.2.1)))), ((cell_far (p := ⟨gb494, _, none⟩) NB516_494.out _).trans (((cell_far (p := ⟨gb494, _, none⟩) NB516_494.out _).trans (hHeld.2.2.2.2.2.2.2.2.2.2.2.2.1)))), ((cell_far (p := ⟨gb494, _, none⟩) NB516_494.out _).trans (((cell_far (p := ⟨gb494, _, none⟩) NB516_494.out _).trans (hHeld.2.2.2.2.2.2.2.2.2.2.2.2.2.1)))), ((cell_far (p := ⟨gb494, _, none⟩) NB516_494.out _).trans (((cell_far (p := ⟨gb494, _, none⟩) NB516_494.out _).trans (hHeld.2.2.2.2.2.2.2.2.2.2.2.2.2.2))))⟩ (fun hHeld => ?_)
        clear hK K
        refine pu_ 8 7 HT_ ?_
        refine dn_ HT_ ?_
        try go_wp2
        refine bodyPost_ret (results_ct rfl _ _ gb494 26 #[.slice Ao92 t537.length co92, .int .i64 t540] (0, 0) _ rfl (oP BK494) Tryz.underlying26 rfl (by kernel_rfl)) rfl ?_
        exact ⟨_, oE, by (with_reducible repeat (first | apply Kd.S_alloc | apply Kd.S_drewN | apply Kd.S_drew)); exact Kd.S_mono (Kd.S_far (p := ⟨gb494, 1, none⟩) (Kd.S_far (p := ⟨gb494, 0, none⟩) (Kd.S_types HO539.out BK494.out (by decide)) (fun _ hk => hk.2) (.slice Ao92 t537.length co92)) (fun _ hk => hk.2) (.int .i64 t540)) (fun _ hk => trivial), oB⟩
      ·rw [if_neg c36] at H
       have c36b0 : (t532 == 0) = false := beq_eq_false_iff_ne.mpr c36
       have c36b1 : (t532 != 0) = true := bne_iff_ne.mpr c36
       simp only [Option.some.injEq, Prod.mk.injEq] at H
       obtain ⟨rfl, rfl, rfl⟩ := H
       have hnb95 := NB493_494.out
       have hnc95 := NB494_493.out
       obtain ⟨⟨_, _⟩, _, _⟩ := z2 BK493
       go_wp2_with (first | ((with_reducible refine gate_callee (f := 48) rfl ?_); refine gl_ 27 Tryz.func48 (impl_fileAt.calls kj4 _ _ t495 t498 a1 t503 t504 t505 t506 t509 t512 t515 _ (rcS0 HO_494000) (rnS HO_494000) A31.out) ?_; rintro e w97 ⟨v507, v510, v513, rfl, ho0, ho1, ho2, hb⟩; refine ⟨_, rfl, ?_⟩; have HO508 := Aside0.mk (Kd.R_lower ho0 (below_size oB)); have HO511 := Aside0.mk (Kd.R_lower ho1 (below_size oB)); have HO514 := Aside0.mk (Kd.R_lower ho2 (below_size oB)); replace HO_494000 := tdS3 (olS0 HO_494000 hb) (Kd.R_base ho0) (Kd.R_base ho1) (Kd.R_base ho2); replace BK493 := kb_ BK493 hb; replace BK494 := kb_ BK494 hb; replace HB := Aside0.mk (below_step oB hb); (try clear ho1); (try clear ho2)) | ((with_reducible refine gate_dst (N := 8) rfl ?_); refine bx_ 8 #[.int .i64 0, .int .i64 0, .int .i64 0, .slice none 0 0, .slice none 0 0, .slice none 0 0] 51 ?_; intro gb516 hg w98 hbox hb; have BK516 := Aside0.mk (hbox); have GW516 := gs_ hg; have NB493_516 := nl_ hg BK493; have NB516_493 := nr_ hg BK493; have NB494_516 := nl_ hg BK494; have NB516_494 := nr_ hg BK494; replace HO_494000 := Aside0.mk (Kd.S_below (Kd.S_elderB (nS0 HO_494000) gb516 (Nat.le_of_eq hg.symm)) hb); replace HO508 := kr_ HO508 hb; replace HO511 := kr_ HO511 hb; replace HO514 := kr_ HO514 hb; replace BK493 := kb_ BK493 hb; replace BK494 := kb_ BK494 hb; replace HB := Aside0.mk (below_step oB hb); clear hb hbox hg; have hnb99 := NB516_493.out; have hnc99 := NB493_516.out; have hnb100 := NB516_494.out; have hnc100 := NB494_516.out; obtain ⟨⟨_, _, _, _, _, _⟩, _, _, _, _, _, _⟩ := z6 BK516; obtain ⟨Ao102, co102, eo102⟩ := Kd.R_slice HO508.out; subst eo102; obtain ⟨Ao103, co103, eo103⟩ := Kd.R_slice HO511.out; subst eo103; obtain ⟨Ao104, co104, eo104⟩ := Kd.R_slice HO514.out; subst eo104; obtain ⟨⟨_, _⟩, _, _⟩ := z2 BK493) | ((with_reducible refine gate_callee (f := 57) rfl ?_); refine gl_ 37 Tryz.func57 (impl_spotOf.calls kj4 _ _ t495 t498 a2 t517 t518 t519 t520 t523 t526 t529 t530 _ (rcS2 HO_494000 gb516 (fun _ hk => hk.2)) (rnS HO_494000) A33.out) ?_; rintro e w106 ⟨v521, v524, v527, rfl, ho0, ho1, ho2, hb⟩; refine ⟨_, rfl, ?_⟩; have HO522 := Aside0.mk (Kd.R_lower (Kd.R_new' ho0 (ltR1 HO508 BK516)) (below_size oB)); have HO525 := Aside0.mk (Kd.R_lower (Kd.R_new' ho1 (ltR1 HO511 BK516)) (below_size oB)); have HO528 := Aside0.mk (Kd.R_lower (Kd.R_new' ho2 (ltR1 HO514 BK516)) (below_size oB)); replace HO_494000 := tdS3 (olS2 HO_494000 gb516 (fun _ hk => hk.2) hb) (Kd.R_base ho0) (Kd.R_base ho1) (Kd.R_base ho2); replace HO508 := elR1 HO508 BK516 (Kd.R_base ho0) hb; replace HO511 := elR1 HO511 BK516 (Kd.R_base ho1) hb; replace HO514 := elR1 HO514 BK516 (Kd.R_base ho2) hb; replace BK493 := kb_ BK493 hb; replace BK494 := kb_ BK494 hb; replace BK516 := kp_ #[.int .i64 t503, .int .i64 t504, .int .i64 t505, .slice Ao102 t506.length co102, .slice Ao103 t509.length co103, .slice Ao104 t512.length co104] BK516 hb; replace HB := Aside0.mk (below_step oB hb); (try clear hk); (try clear ho1); (try clear ho2)) | ((with_reducible refine gate_dst (N := 10) rfl ?_); refine bx_ 10 #[.int .i64 0, .int .i64 0, .int .i64 0, .slice none 0 0, .slice none 0 0, .slice none 0 0, .string (⟨#[]⟩ : ByteArray)] 84 ?_; intro gb531 hg w107 hbox hb; have BK531 := Aside0.mk (hbox); have GW531 := gs_ hg; have NB493_531 := nl_ hg BK493; have NB531_493 := nr_ hg BK493; have NB494_531 := nl_ hg BK494; have NB531_494 := nr_ hg BK494; have NB516_531 := nl_ hg BK516; have NB531_516 := nr_ hg BK516; replace HO_494000 := beS0 HO_494000 hb; replace HO508 := kr_ HO508 hb; replace HO511 := kr_ HO511 hb; replace HO514 := kr_ HO514 hb; replace HO522 := kr_ HO522 hb; replace HO525 := kr_ HO525 hb; replace HO528 := kr_ HO528 hb; replace BK493 := kb_ BK493 hb; replace BK494 := kb_ BK494 hb; replace BK516 := kb_ BK516 hb; replace HB := Aside0.mk (below_step oB hb); clear hb hbox hg; have hnb108 := NB531_493.out; have hnc108 := NB493_531.out; have hnb109 := NB531_494.out; have hnc109 := NB494_531.out; have hnb110 := NB531_516.out; have hnc110 := NB516_531.out; obtain ⟨⟨_, _, _, _, _, _, _⟩, _, _, _, _, _, _, _⟩ := z7 BK531; obtain ⟨Ao112, co112, eo112⟩ := Kd.R_slice HO522.out; subst eo112; obtain ⟨Ao113, co113, eo113⟩ := Kd.R_slice HO525.out; subst eo113; obtain ⟨Ao114, co114, eo114⟩ := Kd.R_slice HO528.out; subst eo114) | ((with_reducible refine gate_callee (f := 58) rfl ?_); refine gl_ 50 Tryz.func58 (impl_EntOf.calls kj4 t517 t518 t519 _ _ t520 _ _ t523 _ _ t526 t529 t532 _ (rcR1 HO522 BK531) (ko HO522) (rcR1 HO525 BK531) (ko HO525) (rcR1 HO528 BK531) (ko HO528) A35.out) ?_; rintro e w115 ⟨rfl, hb⟩; refine ⟨_, rfl, ?_⟩; replace HO_494000 := beS1 HO_494000 BK531 hb; replace HO508 := beR1 HO508 BK531 hb; replace HO511 := beR1 HO511 BK531 hb; replace HO514 := beR1 HO514 BK531 hb; replace HO522 := beR1 HO522 BK531 hb; replace HO525 := beR1 HO525 BK531 hb; replace HO528 := beR1 HO528 BK531 hb; replace BK493 := kb_ BK493 hb; replace BK494 := kb_ BK494 hb; replace BK516 := kb_ BK516 hb; replace BK531 := kp_ #[.int .i64 t517, .int .i64 t518, .int .i64 t519, .slice Ao112 t520.length co112, .slice Ao113 t523.length co113, .slice Ao114 t526.length co114, .string t529] BK531 hb; replace HB := Aside0.mk (below_step oB hb); (try clear hk); obtain ⟨⟨_, _⟩, _, _⟩ := z2 BK493; obtain ⟨⟨_, _⟩, _, _⟩ := z2 BK494))
       refine bodyPost_ret (results_ct rfl _ _ gb494 26 #[.slice Ao11 t495.length co11, .int .i64 t498] (0, 0) _ rfl (oP BK494) Tryz.underlying26 rfl (by kernel_rfl)) rfl ?_
       exact ⟨_, oE, by (with_reducible repeat (first | apply Kd.S_alloc | apply Kd.S_drewN | apply Kd.S_drew)); exact Kd.S_mono (Kd.S_far (p := ⟨gb494, 1, none⟩) (Kd.S_far (p := ⟨gb494, 0, none⟩) (Kd.S_types HO_494000.out BK494.out (by decide)) (fun _ hk => hk.2) (.slice Ao11 t495.length co11)) (fun _ hk => hk.2) (.int .i64 t498)) (fun _ hk => trivial), oB⟩
     ·rw [if_neg c34] at H
      have c34b0 : (t530 == 0) = false := beq_eq_false_iff_ne.mpr c34
      have c34b1 : (t530 != 0) = true := bne_iff_ne.mpr c34
      simp only [Option.some.injEq, Prod.mk.injEq] at H
      obtain ⟨rfl, rfl, rfl⟩ := H
      have hnb118 := NB493_494.out
      have hnc118 := NB494_493.out
      obtain ⟨⟨_, _⟩, _, _⟩ := z2 BK493
      go_wp2_with (first | ((with_reducible refine gate_callee (f := 48) rfl ?_); refine gl_ 27 Tryz.func48 (impl_fileAt.calls kj4 _ _ t495 t498 a1 t503 t504 t505 t506 t509 t512 t515 _ (rcS0 HO_494000) (rnS HO_494000) A31.out) ?_; rintro e w120 ⟨v507, v510, v513, rfl, ho0, ho1, ho2, hb⟩; refine ⟨_, rfl, ?_⟩; have HO508 := Aside0.mk (Kd.R_lower ho0 (below_size oB)); have HO511 := Aside0.mk (Kd.R_lower ho1 (below_size oB)); have HO514 := Aside0.mk (Kd.R_lower ho2 (below_size oB)); replace HO_494000 := tdS3 (olS0 HO_494000 hb) (Kd.R_base ho0) (Kd.R_base ho1) (Kd.R_base ho2); replace BK493 := kb_ BK493 hb; replace BK494 := kb_ BK494 hb; replace HB := Aside0.mk (below_step oB hb); (try clear ho1); (try clear ho2)) | ((with_reducible refine gate_dst (N := 8) rfl ?_); refine bx_ 8 #[.int .i64 0, .int .i64 0, .int .i64 0, .slice none 0 0, .slice none 0 0, .slice none 0 0] 51 ?_; intro gb516 hg w121 hbox hb; have BK516 := Aside0.mk (hbox); have GW516 := gs_ hg; have NB493_516 := nl_ hg BK493; have NB516_493 := nr_ hg BK493; have NB494_516 := nl_ hg BK494; have NB516_494 := nr_ hg BK494; replace HO_494000 := Aside0.mk (Kd.S_below (Kd.S_elderB (nS0 HO_494000) gb516 (Nat.le_of_eq hg.symm)) hb); replace HO508 := kr_ HO508 hb; replace HO511 := kr_ HO511 hb; replace HO514 := kr_ HO514 hb; replace BK493 := kb_ BK493 hb; replace BK494 := kb_ BK494 hb; replace HB := Aside0.mk (below_step oB hb); clear hb hbox hg; have hnb122 := NB516_493.out; have hnc122 := NB493_516.out; have hnb123 := NB516_494.out; have hnc123 := NB494_516.out; obtain ⟨⟨_, _, _, _, _, _⟩, _, _, _, _, _, _⟩ := z6 BK516; obtain ⟨Ao125, co125, eo125⟩ := Kd.R_slice HO508.out; subst eo125; obtain ⟨Ao126, co126, eo126⟩ := Kd.R_slice HO511.out; subst eo126; obtain ⟨Ao127, co127, eo127⟩ := Kd.R_slice HO514.out; subst eo127; obtain ⟨⟨_, _⟩, _, _⟩ := z2 BK493) | ((with_reducible refine gate_callee (f := 57) rfl ?_); refine gl_ 37 Tryz.func57 (impl_spotOf.calls kj4 _ _ t495 t498 a2 t517 t518 t519 t520 t523 t526 t529 t530 _ (rcS2 HO_494000 gb516 (fun _ hk => hk.2)) (rnS HO_494000) A33.out) ?_; rintro e w129 ⟨v521, v524, v527, rfl, ho0, ho1, ho2, hb⟩; refine ⟨_, rfl, ?_⟩; have HO522 := Aside0.mk (Kd.R_lower (Kd.R_new' ho0 (ltR1 HO508 BK516)) (below_size oB)); have HO525 := Aside0.mk (Kd.R_lower (Kd.R_new' ho1 (ltR1 HO511 BK516)) (below_size oB)); have HO528 := Aside0.mk (Kd.R_lower (Kd.R_new' ho2 (ltR1 HO514 BK516)) (below_size oB)); replace HO_494000 := tdS3 (olS2 HO_494000 gb516 (fun _ hk => hk.2) hb) (Kd.R_base ho0) (Kd.R_base ho1) (Kd.R_base ho2); replace HO508 := elR1 HO508 BK516 (Kd.R_base ho0) hb; replace HO511 := elR1 HO511 BK516 (Kd.R_base ho1) hb; replace HO514 := elR1 HO514 BK516 (Kd.R_base ho2) hb; replace BK493 := kb_ BK493 hb; replace BK494 := kb_ BK494 hb; replace BK516 := kp_ #[.int .i64 t503, .int .i64 t504, .int .i64 t505, .slice Ao125 t506.length co125, .slice Ao126 t509.length co126, .slice Ao127 t512.length co127] BK516 hb; replace HB := Aside0.mk (below_step oB hb); (try clear hk); (try clear ho1); (try clear ho2)) | ((with_reducible refine gate_dst (N := 10) rfl ?_); refine bx_ 10 #[.int .i64 0, .int .i64 0, .int .i64 0, .slice none 0 0, .slice none 0 0, .slice none 0 0, .string (⟨#[]⟩ : ByteArray)] 84 ?_; intro gb531 hg w130 hbox hb; have BK531 := Aside0.mk (hbox); have GW531 := gs_ hg; have NB493_531 := nl_ hg BK493; have NB531_493 := nr_ hg BK493; have NB494_531 := nl_ hg BK494; have NB531_494 := nr_ hg BK494; have NB516_531 := nl_ hg BK516; have NB531_516 := nr_ hg BK516; replace HO_494000 := beS0 HO_494000 hb; replace HO508 := kr_ HO508 hb; replace HO511 := kr_ HO511 hb; replace HO514 := kr_ HO514 hb; replace HO522 := kr_ HO522 hb; replace HO525 := kr_ HO525 hb; replace HO528 := kr_ HO528 hb; replace BK493 := kb_ BK493 hb; replace BK494 := kb_ BK494 hb; replace BK516 := kb_ BK516 hb; replace HB := Aside0.mk (below_step oB hb); clear hb hbox hg; have hnb131 := NB531_493.out; have hnc131 := NB493_531.out; have hnb132 := NB531_494.out; have hnc132 := NB494_531.out; have hnb133 := NB531_516.out; have hnc133 := NB516_531.out; obtain ⟨⟨_, _, _, _, _, _, _⟩, _, _, _, _, _, _, _⟩ := z7 BK531; obtain ⟨Ao135, co135, eo135⟩ := Kd.R_slice HO522.out; subst eo135; obtain ⟨Ao136, co136, eo136⟩ := Kd.R_slice HO525.out; subst eo136; obtain ⟨Ao137, co137, eo137⟩ := Kd.R_slice HO528.out; subst eo137; obtain ⟨⟨_, _⟩, _, _⟩ := z2 BK493; obtain ⟨⟨_, _⟩, _, _⟩ := z2 BK494))
      refine bodyPost_ret (results_ct rfl _ _ gb494 26 #[.slice Ao11 t495.length co11, .int .i64 t498] (0, 0) _ rfl (oP BK494) Tryz.underlying26 rfl (by kernel_rfl)) rfl ?_
      exact ⟨_, oE, by (with_reducible repeat (first | apply Kd.S_alloc | apply Kd.S_drewN | apply Kd.S_drew)); exact Kd.S_mono (Kd.S_far (p := ⟨gb494, 1, none⟩) (Kd.S_far (p := ⟨gb494, 0, none⟩) (Kd.S_far (p := ⟨gb531, 6, none⟩) (Kd.S_far (p := ⟨gb531, 5, none⟩) (Kd.S_far (p := ⟨gb531, 4, none⟩) (Kd.S_far (p := ⟨gb531, 3, none⟩) (Kd.S_far (p := ⟨gb531, 2, none⟩) (Kd.S_far (p := ⟨gb531, 1, none⟩) (Kd.S_far (p := ⟨gb531, 0, none⟩) (Kd.S_types (Kd.S_types HO_494000.out BK531.out (by decide)) BK494.out (by decide)) (fun _ hk => hk.1.2) (.int .i64 t517)) (fun _ hk => hk.1.2) (.int .i64 t518)) (fun _ hk => hk.1.2) (.int .i64 t519)) (fun _ hk => hk.1.2) (.slice Ao135 t520.length co135)) (fun _ hk => hk.1.2) (.slice Ao136 t523.length co136)) (fun _ hk => hk.1.2) (.slice Ao137 t526.length co137)) (fun _ hk => hk.1.2) (.string t529)) (fun _ hk => hk.2) (.slice Ao11 t495.length co11)) (fun _ hk => hk.2) (.int .i64 t498)) (fun _ hk => trivial), oB⟩
    ·rw [if_neg c32] at H
     have c32b0 : (t515 == 0) = false := beq_eq_false_iff_ne.mpr c32
     have c32b1 : (t515 != 0) = true := bne_iff_ne.mpr c32
     simp only [Option.some.injEq, Prod.mk.injEq] at H
     obtain ⟨rfl, rfl, rfl⟩ := H
     have hnb140 := NB493_494.out
     have hnc140 := NB494_493.out
     obtain ⟨⟨_, _⟩, _, _⟩ := z2 BK493
     go_wp2_with (first | ((with_reducible refine gate_callee (f := 48) rfl ?_); refine gl_ 27 Tryz.func48 (impl_fileAt.calls kj4 _ _ t495 t498 a1 t503 t504 t505 t506 t509 t512 t515 _ (rcS0 HO_494000) (rnS HO_494000) A31.out) ?_; rintro e w142 ⟨v507, v510, v513, rfl, ho0, ho1, ho2, hb⟩; refine ⟨_, rfl, ?_⟩; have HO508 := Aside0.mk (Kd.R_lower ho0 (below_size oB)); have HO511 := Aside0.mk (Kd.R_lower ho1 (below_size oB)); have HO514 := Aside0.mk (Kd.R_lower ho2 (below_size oB)); replace HO_494000 := tdS3 (olS0 HO_494000 hb) (Kd.R_base ho0) (Kd.R_base ho1) (Kd.R_base ho2); replace BK493 := kb_ BK493 hb; replace BK494 := kb_ BK494 hb; replace HB := Aside0.mk (below_step oB hb); (try clear ho1); (try clear ho2)) | ((with_reducible refine gate_dst (N := 8) rfl ?_); refine bx_ 8 #[.int .i64 0, .int .i64 0, .int .i64 0, .slice none 0 0, .slice none 0 0, .slice none 0 0] 51 ?_; intro gb516 hg w143 hbox hb; have BK516 := Aside0.mk (hbox); have GW516 := gs_ hg; have NB493_516 := nl_ hg BK493; have NB516_493 := nr_ hg BK493; have NB494_516 := nl_ hg BK494; have NB516_494 := nr_ hg BK494; replace HO_494000 := Aside0.mk (Kd.S_below (Kd.S_elderB (nS0 HO_494000) gb516 (Nat.le_of_eq hg.symm)) hb); replace HO508 := kr_ HO508 hb; replace HO511 := kr_ HO511 hb; replace HO514 := kr_ HO514 hb; replace BK493 := kb_ BK493 hb; replace BK494 := kb_ BK494 hb; replace HB := Aside0.mk (below_step oB hb); clear hb hbox hg; have hnb144 := NB516_493.out; have hnc144 := NB493_516.out; have hnb145 := NB516_494.out; have hnc145 := NB494_516.out; obtain ⟨⟨_, _, _, _, _, _⟩, _, _, _, _, _, _⟩ := z6 BK516; obtain ⟨Ao147, co147, eo147⟩ := Kd.R_slice HO508.out; subst eo147; obtain ⟨Ao148, co148, eo148⟩ := Kd.R_slice HO511.out; subst eo148; obtain ⟨Ao149, co149, eo149⟩ := Kd.R_slice HO514.out; subst eo149; obtain ⟨⟨_, _⟩, _, _⟩ := z2 BK493; obtain ⟨⟨_, _⟩, _, _⟩ := z2 BK494))
     refine bodyPost_ret (results_ct rfl _ _ gb494 26 #[.slice Ao11 t495.length co11, .int .i64 t498] (0, 0) _ rfl (oP BK494) Tryz.underlying26 rfl (by kernel_rfl)) rfl ?_
     exact ⟨_, oE, by (with_reducible repeat (first | apply Kd.S_alloc | apply Kd.S_drewN | apply Kd.S_drew)); exact Kd.S_mono (Kd.S_far (p := ⟨gb494, 1, none⟩) (Kd.S_far (p := ⟨gb494, 0, none⟩) (Kd.S_far (p := ⟨gb516, 5, none⟩) (Kd.S_far (p := ⟨gb516, 4, none⟩) (Kd.S_far (p := ⟨gb516, 3, none⟩) (Kd.S_far (p := ⟨gb516, 2, none⟩) (Kd.S_far (p := ⟨gb516, 1, none⟩) (Kd.S_far (p := ⟨gb516, 0, none⟩) (Kd.S_types (Kd.S_mono HO_494000.out (fun k_ hk => (⟨hk, hk.2⟩ : _ ∧ k_ ≠ gb516))) BK494.out (by decide)) (fun _ hk => hk.1.2) (.int .i64 t503)) (fun _ hk => hk.1.2) (.int .i64 t504)) (fun _ hk => hk.1.2) (.int .i64 t505)) (fun _ hk => hk.1.2) (.slice Ao147 t506.length co147)) (fun _ hk => hk.1.2) (.slice Ao148 t509.length co148)) (fun _ hk => hk.1.2) (.slice Ao149 t512.length co149)) (fun _ hk => hk.2) (.slice Ao11 t495.length co11)) (fun _ hk => hk.2) (.int .i64 t498)) (fun _ hk => trivial), oB⟩

-- NOT PRINTED: function 83 (slices_DeleteFunc_Ent)

end Go.Proofs.YtkcfmbggdkkfeaaGreatDoor.P
