-- By this session's own program (wip/myprint.py) out of the translation; Lean checks it.
import Derived.Test.YtolkhimbfegkkaaGreatPx0
import Derived.Test.YtolkhimbfegkkaaGreatPx2
import Derived.Test.YtolkhimbfegkkaaGreatPx5
import Derived.Test.YtolkhimbfegkkaaGreatPx7
namespace Go.Proofs.YtolkhimbfegkkaaGreat.P
open Go.RowKit Go.Proofs.YtolkhimbfegkkaaGreatW.PrintWords Go.Proofs.YtolkhimbfegkkaaGreatW.PrintLast Go.Proofs.YtolkhimbfegkkaaGreatW.PrintMore
attribute [local go_sem] max2_int min2_int max_two min_two max_three min_three max_four min_four   -- for this text's walks alone
set_option linter.unusedVariables false
set_option linter.unusedSimpArgs false

/-! ### impl_InodeOk: function 54 -/
mutual
def impl_InodeOk.j0 : Nat → Bool → Int → Int → Int → List Int → List (S63) → List (S87) → Option (Bool)
 | 0, _, _, _, _, _, _, _ => none
 | k + 1, x26, x376000, x376001, x376002, x376003, x376004, x376005 => if x26 = true then (some false) else (impl_InodeOk.l0 k x376004 (x376004.length : Int) 0 x376000 x376001 x376002 x376003 x376004 x376005)
def impl_InodeOk.l0 : Nat → List (S63) → Int → Int → Int → Int → Int → List Int → List (S63) → List (S87) → Option (Bool)
 | 0, _, _, _, _, _, _, _, _, _ => none
 | k + 1, x28, x29, x30, x376000, x376001, x376002, x376003, x376004, x376005 => if x30 < x29 then (if 0 ≤ x30 then (if x30 < (x28.length : Int) then ((impl_NameOk.f k ((rd_T63 x28 x30).f0)).bind fun t380 => (if t380 = true then ((impl_from.f ((rd_T63 x28 x30).f1) 2 1000).bind fun t381 => (if t381 = true then (if x30 > 0 then (if 0 ≤ (wrap64 (x30 - 1)) then (if (wrap64 (x30 - 1)) < (x376004.length : Int) then (if ((Op.bytesLess (((rd_T63 x376004 (wrap64 (x30 - 1))).f0).toList) (((rd_T63 x28 x30).f0).toList)) = true) then (impl_InodeOk.l0 k x28 x29 (wrap64 (x30 + 1)) x376000 x376001 x376002 x376003 x376004 x376005) else (some false)) else (none)) else (none)) else (impl_InodeOk.l0 k x28 x29 (wrap64 (x30 + 1)) x376000 x376001 x376002 x376003 x376004 x376005)) else (some false))) else (some false))) else (none)) else (none)) else ((impl_from.f x376002 0 1000).bind fun t383 => (if t383 = true then (impl_InodeOk.j2 k ((x376002 == 0) != (x376000 == 1)) x376000 x376001 x376002 x376003 x376004 x376005) else (impl_InodeOk.j2 k true x376000 x376001 x376002 x376003 x376004 x376005)))
def impl_InodeOk.j2 : Nat → Bool → Int → Int → Int → List Int → List (S63) → List (S87) → Option (Bool)
 | 0, _, _, _, _, _, _, _ => none
 | k + 1, x74, x376000, x376001, x376002, x376003, x376004, x376005 => if x74 = true then (some false) else (if x376001 = 1 then (some ((x376004.length : Int) == 0)) else (if x376001 = 2 then (if (x376003.length : Int) = 0 then (some (decide (x376002 ≤ 1))) else (some false)) else (some false)))
end
def impl_InodeOk.f (k : Nat) (a0_0 : Int) (a0_1 : Int) (a0_2 : Int) (l0_3 : List Int) (l0_4 : List (S63)) (l0_5 : List (S87)) : Option (Bool) := (impl_from.f a0_0 1 1000).bind fun t376 => (if t376 = true then (if (l0_3.length : Int) > 100 then (impl_InodeOk.j0 k true a0_0 a0_1 a0_2 l0_3 l0_4 l0_5) else (if (l0_4.length : Int) > 10 then (impl_InodeOk.j0 k true a0_0 a0_1 a0_2 l0_3 l0_4 l0_5) else ((impl_attrsOk.f k l0_5).bind fun t377 => (impl_InodeOk.j0 k (!t377) a0_0 a0_1 a0_2 l0_3 l0_4 l0_5)))) else (impl_InodeOk.j0 k true a0_0 a0_1 a0_2 l0_3 l0_4 l0_5))
set_option maxHeartbeats 8000000 in
set_option maxRecDepth 100000 in
theorem impl_InodeOk.calls (k : Nat) (a0_0 : Int) (a0_1 : Int) (a0_2 : Int) (A0_3 : Option Addr) (c0_3 : Nat) (l0_3 : List Int) (A0_4 : Option Addr) (c0_4 : Nat) (l0_4 : List (S63)) (A0_5 : Option Addr) (c0_5 : Nat) (l0_5 : List (S87)) (r : Bool) (w : World) (hr0_3 : Kd.C (Kd.int .u8) w A0_3 l0_3.length l0_3) (hc0_3 : l0_3.length ≤ c0_3) (hr0_4 : Kd.C k63 w A0_4 l0_4.length l0_4) (hc0_4 : l0_4.length ≤ c0_4) (hr0_5 : Kd.C k87 w A0_5 l0_5.length l0_5) (hc0_5 : l0_5.length ≤ c0_5) (h : impl_InodeOk.f k a0_0 a0_1 a0_2 l0_3 l0_4 l0_5 = some r) :
  Calls Tryz.prog 54 #[.agg #[.int .i64 a0_0, .int .i64 a0_1, .int .i64 a0_2, .slice A0_3 l0_3.length c0_3, .slice A0_4 l0_4.length c0_4, .slice A0_5 l0_5.length c0_5]] w fun e w' => e = .returned (.bool r) ∧ Below w.heap.size w w' := by
 have hu47 := Tryz.underlying47
 have hu63 := Tryz.underlying63
 have HR0_3 := Aside0.mk hr0_3
 have HC0_3 := Aside0.mk hc0_3
 clear hr0_3 hc0_3
 have HR0_4 := Aside0.mk hr0_4
 have HC0_4 := Aside0.mk hc0_4
 clear hr0_4 hc0_4
 have HR0_5 := Aside0.mk hr0_5
 have HC0_5 := Aside0.mk hc0_5
 clear hr0_5 hc0_5
 have HB := Aside0.mk (Below.refl w.heap.size w)
 unfold impl_InodeOk.f at h
 have H := h
 clear h
 have HC2 := Aside0.mk H
 clear H
 go_enter Tryz.func54, Tryz.ntmps54
 go_upto_region 1 with (first | ((with_reducible refine gate_dst (N := 1) rfl ?_); (try (refine gate_guard (by rfl) ?_; dsimp only)); refine bx_ 1 #[.int .i64 a0_0, .int .i64 a0_1, .int .i64 a0_2, .slice A0_3 l0_3.length c0_3, .slice A0_4 l0_4.length c0_4, .slice A0_5 l0_5.length c0_5] 47 ?_; intro gb375 hg w3 hbox hb; have BK375 := Aside0.mk (hbox); have GW375 := gs_ hg; replace HB := Aside0.mk (below_step oB hb); clear hb hbox hg))
 repeat (go_quiet (fail); go_upto_region 1 with (first | ((with_reducible refine gate_dst (N := 1) rfl ?_); (try (refine gate_guard (by rfl) ?_; dsimp only)); refine bx_ 1 #[.int .i64 a0_0, .int .i64 a0_1, .int .i64 a0_2, .slice A0_3 l0_3.length c0_3, .slice A0_4 l0_4.length c0_4, .slice A0_5 l0_5.length c0_5] 47 ?_; intro gb375 hg w3 hbox hb; have BK375 := Aside0.mk (hbox); have GW375 := gs_ hg; replace HB := Aside0.mk (below_step oB hb); clear hb hbox hg)))
 (try simp only [Act.put, List.setIfInBounds_toArray, List.set_cons_zero, List.set_cons_succ])
 go_cut [26] (fun v26 wc => ∃ (kq : Nat) (x26_1 : Bool), v26 = .bool x26_1 ∧ Aside0 (impl_InodeOk.j0 kq x26_1 a0_0 a0_1 a0_2 l0_3 l0_4 l0_5 = some r) ∧ Aside0 (kq ≤ k) ∧ Aside0 (wc.heap[gb375]? = some (.cells #[.int .i64 a0_0, .int .i64 a0_1, .int .i64 a0_2, (.slice A0_3 l0_3.length c0_3), (.slice A0_4 l0_4.length c0_4), (.slice A0_5 l0_5.length c0_5)] 47 (0, 0))) ∧ Aside0 (Below w.heap.size w wc))
 case first =>
  have H := HC2.out
  clear HC2
  replace H := bA H
  obtain ⟨t376, A4, H⟩ := H
  try dsimp only at H
  replace H := itB H
  rcases H with ⟨rfl, H⟩ | ⟨rfl, H⟩
  ·by_cases c6 : (l0_3.length : Int) > 100
   ·rw [if_pos c6] at H
    have c6b0 : decide (100 < (l0_3.length : Int)) = true := decide_eq_true c6
    have c6b1 : decide (100 < l0_3.length) = true := decide_eq_true (by omega)
    clear c6
    (first | rw [c6b0] | rw [c6b2] | (simp only [i64_w, i32_w]; rw [c6b0]) | skip)
    have H' := Aside0.mk H
    clear H
    obtain ⟨⟨_, _, _, _, _, _⟩, _, _, _, _, _, _⟩ := z6 BK375
    go_wp2_with (first | (go_at_call 53; (with_reducible refine (impl_from.calls a0_0 1 1000 true _ A4.out).mono ?_); rintro e w' ⟨rfl, ⟨nd, rfl⟩⟩))
    repeat (go_quiet (first | (go_at_call 53; (with_reducible refine (impl_from.calls a0_0 1 1000 true _ A4.out).mono ?_); rintro e w' ⟨rfl, ⟨nd, rfl⟩⟩; exact oQ)); try go_wp2_with (first | (go_at_call 53; (with_reducible refine (impl_from.calls a0_0 1 1000 true _ A4.out).mono ?_); rintro e w' ⟨rfl, ⟨nd, rfl⟩⟩)))
    go_meet
    case rel => exact ⟨_, (true), oS, H', ⟨by first | omega | exact Nat.le_refl _⟩, ⟨oF BK375⟩, ⟨oB⟩⟩
   ·rw [if_neg c6] at H
    have c6b0 : decide (100 < (l0_3.length : Int)) = false := decide_eq_false c6
    have c6b1 : decide (100 < l0_3.length) = false := decide_eq_false (by omega)
    clear c6
    (first | rw [c6b0] | rw [c6b2] | (simp only [i64_w, i32_w]; rw [c6b0]) | skip)
    by_cases c8 : (l0_4.length : Int) > 10
    ·rw [if_pos c8] at H
     have c8b0 : decide (10 < (l0_4.length : Int)) = true := decide_eq_true c8
     have c8b1 : decide (10 < l0_4.length) = true := decide_eq_true (by omega)
     clear c8
     have H' := Aside0.mk H
     clear H
     obtain ⟨⟨_, _, _, _, _, _⟩, _, _, _, _, _, _⟩ := z6 BK375
     go_wp2_with (first | (go_at_call 53; (with_reducible refine (impl_from.calls a0_0 1 1000 true _ A4.out).mono ?_); rintro e w' ⟨rfl, ⟨nd, rfl⟩⟩))
     repeat (go_quiet (first | (go_at_call 53; (with_reducible refine (impl_from.calls a0_0 1 1000 true _ A4.out).mono ?_); rintro e w' ⟨rfl, ⟨nd, rfl⟩⟩; exact oQ)); try go_wp2_with (first | (go_at_call 53; (with_reducible refine (impl_from.calls a0_0 1 1000 true _ A4.out).mono ?_); rintro e w' ⟨rfl, ⟨nd, rfl⟩⟩)))
     go_meet
     case rel => exact ⟨_, (true), oS, H', ⟨by first | omega | exact Nat.le_refl _⟩, ⟨oF BK375⟩, ⟨oB⟩⟩
    ·rw [if_neg c8] at H
     have c8b0 : decide (10 < (l0_4.length : Int)) = false := decide_eq_false c8
     have c8b1 : decide (10 < l0_4.length) = false := decide_eq_false (by omega)
     clear c8
     replace H := bA H
     obtain ⟨t377, A10, H⟩ := H
     try dsimp only at H
     have H' := Aside0.mk H
     clear H
     obtain ⟨⟨_, _, _, _, _, _⟩, _, _, _, _, _, _⟩ := z6 BK375
     go_wp2_with (first | (go_at_call 53; (with_reducible refine (impl_from.calls a0_0 1 1000 true _ A4.out).mono ?_); rintro e w' ⟨rfl, ⟨nd, rfl⟩⟩) | (go_at_call 83; (with_reducible refine (impl_attrsOk.calls k _ _ l0_5 t377 _ (kC HR0_5) HC0_5.out A10.out).mono ?_); rintro e w12 ⟨rfl, hb⟩; replace BK375 := kb_ BK375 hb; replace HB := Aside0.mk (below_step oB hb)))
     repeat (go_quiet (first | (go_at_call 53; (with_reducible refine (impl_from.calls a0_0 1 1000 true _ A4.out).mono ?_); rintro e w' ⟨rfl, ⟨nd, rfl⟩⟩; exact oQ) | (go_at_call 83; (with_reducible refine (impl_attrsOk.calls k _ _ l0_5 t377 _ (kC HR0_5) HC0_5.out A10.out).mono ?_); rintro e w12 ⟨rfl, hb⟩; replace BK375 := kb_ BK375 hb; replace HB := Aside0.mk (below_step oB hb))); try go_wp2_with (first | (go_at_call 53; (with_reducible refine (impl_from.calls a0_0 1 1000 true _ A4.out).mono ?_); rintro e w' ⟨rfl, ⟨nd, rfl⟩⟩) | (go_at_call 83; (with_reducible refine (impl_attrsOk.calls k _ _ l0_5 t377 _ (kC HR0_5) HC0_5.out A10.out).mono ?_); rintro e w12 ⟨rfl, hb⟩; replace BK375 := kb_ BK375 hb; replace HB := Aside0.mk (below_step oB hb))))
     go_meet
     case rel => exact ⟨_, (!t377), oS, H', ⟨by first | omega | exact Nat.le_refl _⟩, ⟨oF BK375⟩, ⟨oB⟩⟩
  ·have H' := Aside0.mk H
   clear H
   obtain ⟨⟨_, _, _, _, _, _⟩, _, _, _, _, _, _⟩ := z6 BK375
   go_wp2_with (first | (go_at_call 53; (with_reducible refine (impl_from.calls a0_0 1 1000 false _ A4.out).mono ?_); rintro e w' ⟨rfl, ⟨nd, rfl⟩⟩))
   repeat (go_quiet (first | (go_at_call 53; (with_reducible refine (impl_from.calls a0_0 1 1000 false _ A4.out).mono ?_); rintro e w' ⟨rfl, ⟨nd, rfl⟩⟩; exact oQ)); try go_wp2_with (first | (go_at_call 53; (with_reducible refine (impl_from.calls a0_0 1 1000 false _ A4.out).mono ?_); rintro e w' ⟨rfl, ⟨nd, rfl⟩⟩)))
   go_meet
   case rel => exact ⟨_, (true), oS, H', ⟨by first | omega | exact Nat.le_refl _⟩, ⟨oF BK375⟩, ⟨oB⟩⟩
 case rest =>
  clear HC2
  obtain ⟨kq, x26_1, rfl, HA, HJ1, BK375, HB⟩ := hcut
  cases kq with
  | zero => exact absurd HA.out (by simp [impl_InodeOk.j0])
  | succ kj1 =>
   have H := HA.out
   clear HA
   simp only [impl_InodeOk.j0] at H
   replace H := itB H
   rcases H with ⟨rfl, H⟩ | ⟨rfl, H⟩
   ·obtain rfl := Option.some.inj H
    go_wp2
    repeat (go_quiet (fail); try go_wp2)
    go_ret
    exact ⟨oE, oB⟩
   ·have H' := Aside0.mk H
    clear H
    obtain ⟨⟨_, _, _, _, _, _⟩, _, _, _, _, _, _⟩ := z6 BK375
    go_wp2
    repeat (go_quiet (fail); try go_wp2)
    go_loopg [30] kj1 (fun kq v30 w' => ∃ (x30_2 : Int), v30 = .int .i64 x30_2 ∧ Aside0 (impl_InodeOk.l0 kq l0_4 (l0_4.length : Int) x30_2 a0_0 a0_1 a0_2 l0_3 l0_4 l0_5 = some r) ∧ Aside0 (kq ≤ kj1) ∧ Aside0 (w'.heap[gb375]? = some (.cells #[.int .i64 a0_0, .int .i64 a0_1, .int .i64 a0_2, (.slice A0_3 l0_3.length c0_3), (.slice A0_4 l0_4.length c0_4), (.slice A0_5 l0_5.length c0_5)] 47 (0, 0))) ∧ Aside0 (Below w.heap.size w w'))
    case atStart => exact ⟨(0), oS, H', ⟨Nat.le_refl _⟩, ⟨oF BK375⟩, ⟨oB⟩⟩
    case round =>
     clear H'
     obtain ⟨x30_2, rfl, HA, HK2, BK375, HB⟩ := hrel
     cases gk with
     | zero => exact absurd HA.out (by simp [impl_InodeOk.l0])
     | succ k2 =>
      have H := HA.out
      clear HA
      simp only [impl_InodeOk.l0] at H
      replace H := itD H
      rcases H with ⟨c16b0, H⟩ | ⟨c16b0, H⟩
      ·replace H := itD H
       rcases H with ⟨c17b0, H⟩ | ⟨c17b0, H⟩
       ·replace H := itD H
        rcases H with ⟨c18b0, H⟩ | ⟨c18b0, H⟩
        ·replace H := bA H
         obtain ⟨t380, A19, H⟩ := H
         try dsimp only at H
         replace H := itB H
         rcases H with ⟨rfl, H⟩ | ⟨rfl, H⟩
         ·replace H := bA H
          obtain ⟨t381, A21, H⟩ := H
          try dsimp only at H
          replace H := itB H
          rcases H with ⟨rfl, H⟩ | ⟨rfl, H⟩
          ·replace H := itG H
           rcases H with ⟨c23b0, H⟩ | ⟨c23b0, H⟩
           ·obtain ⟨ji24, hji24⟩ : ∃ j_ : Int, (wrap64 (x30_2 - 1)) = j_ := ⟨_, rfl⟩
            replace H : (if 0 ≤ (ji24) then (if (ji24) < (l0_4.length : Int) then (if ((Op.bytesLess (((rd_T63 l0_4 (ji24)).f0).toList) (((rd_T63 l0_4 x30_2).f0).toList)) = true) then (impl_InodeOk.l0 k2 l0_4 (l0_4.length : Int) (wrap64 (x30_2 + 1)) a0_0 a0_1 a0_2 l0_3 l0_4 l0_5) else (some false)) else (none)) else (none)) = some r := by first | (rw [hji24] at H; exact H) | (simp only [hji24] at H ⊢; exact H)
            (try rw [hji24] at A19)
            (try rw [hji24] at A21)
            have hji24w : (IntKind.i64.wrap (x30_2 - 1)) = ji24 := (i64_w _).trans hji24
            replace H := itD H
            rcases H with ⟨c25b0, H⟩ | ⟨c25b0, H⟩
            ·replace H := itD H
             rcases H with ⟨c26b0, H⟩ | ⟨c26b0, H⟩
             ·by_cases c27 : ((Op.bytesLess (((rd_T63 l0_4 (ji24)).f0).toList) (((rd_T63 l0_4 x30_2).f0).toList)) = true)
              ·rw [if_pos c27] at H
               have c27b0 : (Op.bytesLess (((rd_T63 l0_4 (ji24)).f0).toList) (((rd_T63 l0_4 x30_2).f0).toList)) = true := c27
               clear c27
               have H' := Aside0.mk H
               clear H
               have p378 : (0 ≤ (x30_2 : Int)) = True := oT
               have q378 : (x30_2 < (l0_4.length : Int)) = True := oT
               obtain ⟨ad378, e378, hx378_0, hx378_1⟩ := at_T63 HR0_4.out x30_2 oa oa
               cases e378
               replace hx378_0 := cB HB hx378_0
               replace hx378_1 := cB HB hx378_1
               go_wp2_with (first | ((with_reducible refine gate_dst (N := 4) rfl ?_); (try (refine gate_guard (by rfl) ?_; dsimp only)); refine bx_ 4 #[.string (⟨#[]⟩ : ByteArray), .int .i64 0] 63 ?_; intro gb379 hg w28 hbox hb; have BK379 := Aside0.mk (hbox); have GW379 := gs_ hg; have NB375_379 := nl_ hg BK375; have NB379_375 := nr_ hg BK375; replace BK375 := kb_ BK375 hb; replace HB := Aside0.mk (below_step oB hb); clear hb hbox hg; have hnb29 := NB379_375.out; have hnc29 := NB375_379.out; obtain ⟨⟨_, _⟩, _, _⟩ := z2 BK379) | (go_at_call 84; (with_reducible refine (impl_NameOk.calls k2 ((rd_T63 l0_4 x30_2).f0) true _ A19.out).mono ?_); rintro e w' ⟨rfl, ⟨nd, rfl⟩⟩) | (go_at_call 53; (with_reducible refine (impl_from.calls ((rd_T63 l0_4 x30_2).f1) 2 1000 true _ A21.out).mono ?_); rintro e w' ⟨rfl, ⟨nd, rfl⟩⟩; obtain ⟨⟨_, _, _, _, _, _⟩, _, _, _, _, _, _⟩ := z6 BK375; have p382 : (0 ≤ ((ji24) : Int)) = True := oT; have q382 : ((ji24) < (l0_4.length : Int)) = True := oT; obtain ⟨ad382, e382, hx382_0, hx382_1⟩ := at_T63 HR0_4.out (ji24) oa oa; obtain rfl : ad378 = ad382 := (by injection e382); have hn382_0 : ad378.block ≠ gb379 := cn_ hx382_0 GW379; have hn382_1 : ad378.block ≠ gb379 := cn_ hx382_0 GW379; replace hx382_0 := cB HB hx382_0; replace hx382_1 := cB HB hx382_1; replace hx382_0 := cf_ 0 (.string ((rd_T63 l0_4 x30_2).f0)) hn382_0 hx382_0; replace hx382_1 := cf_ 0 (.string ((rd_T63 l0_4 x30_2).f0)) hn382_0 hx382_1; replace hx382_0 := cf_ 1 (.int .i64 ((rd_T63 l0_4 x30_2).f1)) hn382_1 hx382_0; replace hx382_1 := cf_ 1 (.int .i64 ((rd_T63 l0_4 x30_2).f1)) hn382_1 hx382_1; (try have hy382_0 := fun (n_ : Nat) => (show ((((w28.drewN n_).setCell ⟨gb379, 0, none⟩ (.string ((rd_T63 l0_4 x30_2).f0))).setCell ⟨gb379, 1, none⟩ (.int .i64 ((rd_T63 l0_4 x30_2).f1)))).cell? _ = some _ from hx382_0)); (try have hy382_1 := fun (n_ : Nat) => (show ((((w28.drewN n_).setCell ⟨gb379, 0, none⟩ (.string ((rd_T63 l0_4 x30_2).f0))).setCell ⟨gb379, 1, none⟩ (.int .i64 ((rd_T63 l0_4 x30_2).f1)))).cell? _ = some _ from hx382_1)); clear hn382_0; clear hn382_1))
               repeat (go_quiet (first | (go_at_call 84; (with_reducible refine (impl_NameOk.calls k2 ((rd_T63 l0_4 x30_2).f0) true _ A19.out).mono ?_); rintro e w' ⟨rfl, ⟨nd, rfl⟩⟩; exact oQ) | (go_at_call 53; (with_reducible refine (impl_from.calls ((rd_T63 l0_4 x30_2).f1) 2 1000 true _ A21.out).mono ?_); rintro e w' ⟨rfl, ⟨nd, rfl⟩⟩; exact oQ; obtain ⟨⟨_, _, _, _, _, _⟩, _, _, _, _, _, _⟩ := z6 BK375; have p382 : (0 ≤ ((ji24) : Int)) = True := oT; have q382 : ((ji24) < (l0_4.length : Int)) = True := oT; obtain ⟨ad382, e382, hx382_0, hx382_1⟩ := at_T63 HR0_4.out (ji24) oa oa; obtain rfl : ad378 = ad382 := (by injection e382); have hn382_0 : ad378.block ≠ gb379 := cn_ hx382_0 GW379; have hn382_1 : ad378.block ≠ gb379 := cn_ hx382_0 GW379; replace hx382_0 := cB HB hx382_0; replace hx382_1 := cB HB hx382_1; replace hx382_0 := cf_ 0 (.string ((rd_T63 l0_4 x30_2).f0)) hn382_0 hx382_0; replace hx382_1 := cf_ 0 (.string ((rd_T63 l0_4 x30_2).f0)) hn382_0 hx382_1; replace hx382_0 := cf_ 1 (.int .i64 ((rd_T63 l0_4 x30_2).f1)) hn382_1 hx382_0; replace hx382_1 := cf_ 1 (.int .i64 ((rd_T63 l0_4 x30_2).f1)) hn382_1 hx382_1; (try have hy382_0 := fun (n_ : Nat) => (show ((((w28.drewN n_).setCell ⟨gb379, 0, none⟩ (.string ((rd_T63 l0_4 x30_2).f0))).setCell ⟨gb379, 1, none⟩ (.int .i64 ((rd_T63 l0_4 x30_2).f1)))).cell? _ = some _ from hx382_0)); (try have hy382_1 := fun (n_ : Nat) => (show ((((w28.drewN n_).setCell ⟨gb379, 0, none⟩ (.string ((rd_T63 l0_4 x30_2).f0))).setCell ⟨gb379, 1, none⟩ (.int .i64 ((rd_T63 l0_4 x30_2).f1)))).cell? _ = some _ from hx382_1)); clear hn382_0; clear hn382_1)); try go_wp2_with (first | ((with_reducible refine gate_dst (N := 4) rfl ?_); (try (refine gate_guard (by rfl) ?_; dsimp only)); refine bx_ 4 #[.string (⟨#[]⟩ : ByteArray), .int .i64 0] 63 ?_; intro gb379 hg w28 hbox hb; have BK379 := Aside0.mk (hbox); have GW379 := gs_ hg; have NB375_379 := nl_ hg BK375; have NB379_375 := nr_ hg BK375; replace BK375 := kb_ BK375 hb; replace HB := Aside0.mk (below_step oB hb); clear hb hbox hg; have hnb29 := NB379_375.out; have hnc29 := NB375_379.out; obtain ⟨⟨_, _⟩, _, _⟩ := z2 BK379) | (go_at_call 84; (with_reducible refine (impl_NameOk.calls k2 ((rd_T63 l0_4 x30_2).f0) true _ A19.out).mono ?_); rintro e w' ⟨rfl, ⟨nd, rfl⟩⟩) | (go_at_call 53; (with_reducible refine (impl_from.calls ((rd_T63 l0_4 x30_2).f1) 2 1000 true _ A21.out).mono ?_); rintro e w' ⟨rfl, ⟨nd, rfl⟩⟩; obtain ⟨⟨_, _, _, _, _, _⟩, _, _, _, _, _, _⟩ := z6 BK375; have p382 : (0 ≤ ((ji24) : Int)) = True := oT; have q382 : ((ji24) < (l0_4.length : Int)) = True := oT; obtain ⟨ad382, e382, hx382_0, hx382_1⟩ := at_T63 HR0_4.out (ji24) oa oa; obtain rfl : ad378 = ad382 := (by injection e382); have hn382_0 : ad378.block ≠ gb379 := cn_ hx382_0 GW379; have hn382_1 : ad378.block ≠ gb379 := cn_ hx382_0 GW379; replace hx382_0 := cB HB hx382_0; replace hx382_1 := cB HB hx382_1; replace hx382_0 := cf_ 0 (.string ((rd_T63 l0_4 x30_2).f0)) hn382_0 hx382_0; replace hx382_1 := cf_ 0 (.string ((rd_T63 l0_4 x30_2).f0)) hn382_0 hx382_1; replace hx382_0 := cf_ 1 (.int .i64 ((rd_T63 l0_4 x30_2).f1)) hn382_1 hx382_0; replace hx382_1 := cf_ 1 (.int .i64 ((rd_T63 l0_4 x30_2).f1)) hn382_1 hx382_1; (try have hy382_0 := fun (n_ : Nat) => (show ((((w28.drewN n_).setCell ⟨gb379, 0, none⟩ (.string ((rd_T63 l0_4 x30_2).f0))).setCell ⟨gb379, 1, none⟩ (.int .i64 ((rd_T63 l0_4 x30_2).f1)))).cell? _ = some _ from hx382_0)); (try have hy382_1 := fun (n_ : Nat) => (show ((((w28.drewN n_).setCell ⟨gb379, 0, none⟩ (.string ((rd_T63 l0_4 x30_2).f0))).setCell ⟨gb379, 1, none⟩ (.int .i64 ((rd_T63 l0_4 x30_2).f1)))).cell? _ = some _ from hx382_1)); clear hn382_0; clear hn382_1)))
               go_roundg k2
               case measure => have := HJ1.out; have := HK2.out; omega
               case rel => exact ⟨(wrap64 (x30_2 + 1)), oS, H', ⟨by have := HJ1.out; have := HK2.out; omega⟩, ⟨oF BK375⟩, ⟨oB⟩⟩
              ·rw [if_neg c27] at H
               have c27b0 : (Op.bytesLess (((rd_T63 l0_4 (ji24)).f0).toList) (((rd_T63 l0_4 x30_2).f0).toList)) = false := by simpa using c27
               clear c27
               obtain rfl := Option.some.inj H
               have p378 : (0 ≤ (x30_2 : Int)) = True := oT
               have q378 : (x30_2 < (l0_4.length : Int)) = True := oT
               obtain ⟨ad378, e378, hx378_0, hx378_1⟩ := at_T63 HR0_4.out x30_2 oa oa
               cases e378
               replace hx378_0 := cB HB hx378_0
               replace hx378_1 := cB HB hx378_1
               go_wp2_with (first | ((with_reducible refine gate_dst (N := 4) rfl ?_); (try (refine gate_guard (by rfl) ?_; dsimp only)); refine bx_ 4 #[.string (⟨#[]⟩ : ByteArray), .int .i64 0] 63 ?_; intro gb379 hg w32 hbox hb; have BK379 := Aside0.mk (hbox); have GW379 := gs_ hg; have NB375_379 := nl_ hg BK375; have NB379_375 := nr_ hg BK375; replace BK375 := kb_ BK375 hb; replace HB := Aside0.mk (below_step oB hb); clear hb hbox hg; have hnb33 := NB379_375.out; have hnc33 := NB375_379.out; obtain ⟨⟨_, _⟩, _, _⟩ := z2 BK379) | (go_at_call 84; (with_reducible refine (impl_NameOk.calls k2 ((rd_T63 l0_4 x30_2).f0) true _ A19.out).mono ?_); rintro e w' ⟨rfl, ⟨nd, rfl⟩⟩) | (go_at_call 53; (with_reducible refine (impl_from.calls ((rd_T63 l0_4 x30_2).f1) 2 1000 true _ A21.out).mono ?_); rintro e w' ⟨rfl, ⟨nd, rfl⟩⟩; obtain ⟨⟨_, _, _, _, _, _⟩, _, _, _, _, _, _⟩ := z6 BK375; have p382 : (0 ≤ ((ji24) : Int)) = True := oT; have q382 : ((ji24) < (l0_4.length : Int)) = True := oT; obtain ⟨ad382, e382, hx382_0, hx382_1⟩ := at_T63 HR0_4.out (ji24) oa oa; obtain rfl : ad378 = ad382 := (by injection e382); have hn382_0 : ad378.block ≠ gb379 := cn_ hx382_0 GW379; have hn382_1 : ad378.block ≠ gb379 := cn_ hx382_0 GW379; replace hx382_0 := cB HB hx382_0; replace hx382_1 := cB HB hx382_1; replace hx382_0 := cf_ 0 (.string ((rd_T63 l0_4 x30_2).f0)) hn382_0 hx382_0; replace hx382_1 := cf_ 0 (.string ((rd_T63 l0_4 x30_2).f0)) hn382_0 hx382_1; replace hx382_0 := cf_ 1 (.int .i64 ((rd_T63 l0_4 x30_2).f1)) hn382_1 hx382_0; replace hx382_1 := cf_ 1 (.int .i64 ((rd_T63 l0_4 x30_2).f1)) hn382_1 hx382_1; (try have hy382_0 := fun (n_ : Nat) => (show ((((w32.drewN n_).setCell ⟨gb379, 0, none⟩ (.string ((rd_T63 l0_4 x30_2).f0))).setCell ⟨gb379, 1, none⟩ (.int .i64 ((rd_T63 l0_4 x30_2).f1)))).cell? _ = some _ from hx382_0)); (try have hy382_1 := fun (n_ : Nat) => (show ((((w32.drewN n_).setCell ⟨gb379, 0, none⟩ (.string ((rd_T63 l0_4 x30_2).f0))).setCell ⟨gb379, 1, none⟩ (.int .i64 ((rd_T63 l0_4 x30_2).f1)))).cell? _ = some _ from hx382_1)); clear hn382_0; clear hn382_1))
               repeat (go_quiet (first | (go_at_call 84; (with_reducible refine (impl_NameOk.calls k2 ((rd_T63 l0_4 x30_2).f0) true _ A19.out).mono ?_); rintro e w' ⟨rfl, ⟨nd, rfl⟩⟩; exact oQ) | (go_at_call 53; (with_reducible refine (impl_from.calls ((rd_T63 l0_4 x30_2).f1) 2 1000 true _ A21.out).mono ?_); rintro e w' ⟨rfl, ⟨nd, rfl⟩⟩; exact oQ; obtain ⟨⟨_, _, _, _, _, _⟩, _, _, _, _, _, _⟩ := z6 BK375; have p382 : (0 ≤ ((ji24) : Int)) = True := oT; have q382 : ((ji24) < (l0_4.length : Int)) = True := oT; obtain ⟨ad382, e382, hx382_0, hx382_1⟩ := at_T63 HR0_4.out (ji24) oa oa; obtain rfl : ad378 = ad382 := (by injection e382); have hn382_0 : ad378.block ≠ gb379 := cn_ hx382_0 GW379; have hn382_1 : ad378.block ≠ gb379 := cn_ hx382_0 GW379; replace hx382_0 := cB HB hx382_0; replace hx382_1 := cB HB hx382_1; replace hx382_0 := cf_ 0 (.string ((rd_T63 l0_4 x30_2).f0)) hn382_0 hx382_0; replace hx382_1 := cf_ 0 (.string ((rd_T63 l0_4 x30_2).f0)) hn382_0 hx382_1; replace hx382_0 := cf_ 1 (.int .i64 ((rd_T63 l0_4 x30_2).f1)) hn382_1 hx382_0; replace hx382_1 := cf_ 1 (.int .i64 ((rd_T63 l0_4 x30_2).f1)) hn382_1 hx382_1; (try have hy382_0 := fun (n_ : Nat) => (show ((((w32.drewN n_).setCell ⟨gb379, 0, none⟩ (.string ((rd_T63 l0_4 x30_2).f0))).setCell ⟨gb379, 1, none⟩ (.int .i64 ((rd_T63 l0_4 x30_2).f1)))).cell? _ = some _ from hx382_0)); (try have hy382_1 := fun (n_ : Nat) => (show ((((w32.drewN n_).setCell ⟨gb379, 0, none⟩ (.string ((rd_T63 l0_4 x30_2).f0))).setCell ⟨gb379, 1, none⟩ (.int .i64 ((rd_T63 l0_4 x30_2).f1)))).cell? _ = some _ from hx382_1)); clear hn382_0; clear hn382_1)); try go_wp2_with (first | ((with_reducible refine gate_dst (N := 4) rfl ?_); (try (refine gate_guard (by rfl) ?_; dsimp only)); refine bx_ 4 #[.string (⟨#[]⟩ : ByteArray), .int .i64 0] 63 ?_; intro gb379 hg w32 hbox hb; have BK379 := Aside0.mk (hbox); have GW379 := gs_ hg; have NB375_379 := nl_ hg BK375; have NB379_375 := nr_ hg BK375; replace BK375 := kb_ BK375 hb; replace HB := Aside0.mk (below_step oB hb); clear hb hbox hg; have hnb33 := NB379_375.out; have hnc33 := NB375_379.out; obtain ⟨⟨_, _⟩, _, _⟩ := z2 BK379) | (go_at_call 84; (with_reducible refine (impl_NameOk.calls k2 ((rd_T63 l0_4 x30_2).f0) true _ A19.out).mono ?_); rintro e w' ⟨rfl, ⟨nd, rfl⟩⟩) | (go_at_call 53; (with_reducible refine (impl_from.calls ((rd_T63 l0_4 x30_2).f1) 2 1000 true _ A21.out).mono ?_); rintro e w' ⟨rfl, ⟨nd, rfl⟩⟩; obtain ⟨⟨_, _, _, _, _, _⟩, _, _, _, _, _, _⟩ := z6 BK375; have p382 : (0 ≤ ((ji24) : Int)) = True := oT; have q382 : ((ji24) < (l0_4.length : Int)) = True := oT; obtain ⟨ad382, e382, hx382_0, hx382_1⟩ := at_T63 HR0_4.out (ji24) oa oa; obtain rfl : ad378 = ad382 := (by injection e382); have hn382_0 : ad378.block ≠ gb379 := cn_ hx382_0 GW379; have hn382_1 : ad378.block ≠ gb379 := cn_ hx382_0 GW379; replace hx382_0 := cB HB hx382_0; replace hx382_1 := cB HB hx382_1; replace hx382_0 := cf_ 0 (.string ((rd_T63 l0_4 x30_2).f0)) hn382_0 hx382_0; replace hx382_1 := cf_ 0 (.string ((rd_T63 l0_4 x30_2).f0)) hn382_0 hx382_1; replace hx382_0 := cf_ 1 (.int .i64 ((rd_T63 l0_4 x30_2).f1)) hn382_1 hx382_0; replace hx382_1 := cf_ 1 (.int .i64 ((rd_T63 l0_4 x30_2).f1)) hn382_1 hx382_1; (try have hy382_0 := fun (n_ : Nat) => (show ((((w32.drewN n_).setCell ⟨gb379, 0, none⟩ (.string ((rd_T63 l0_4 x30_2).f0))).setCell ⟨gb379, 1, none⟩ (.int .i64 ((rd_T63 l0_4 x30_2).f1)))).cell? _ = some _ from hx382_0)); (try have hy382_1 := fun (n_ : Nat) => (show ((((w32.drewN n_).setCell ⟨gb379, 0, none⟩ (.string ((rd_T63 l0_4 x30_2).f0))).setCell ⟨gb379, 1, none⟩ (.int .i64 ((rd_T63 l0_4 x30_2).f1)))).cell? _ = some _ from hx382_1)); clear hn382_0; clear hn382_1)))
               go_ret
               exact ⟨by first | rfl | (simp [errW_none, errW_some] <;> rfl) | (simp only [← hji24]; first | rfl | (simp [errW_none, errW_some] <;> rfl)) | (simp [*, errW_none, errW_some] <;> rfl), oB⟩
             ·cases H
            ·cases H
           ·have H' := Aside0.mk H
            clear H
            have p378 : (0 ≤ (x30_2 : Int)) = True := oT
            have q378 : (x30_2 < (l0_4.length : Int)) = True := oT
            obtain ⟨ad378, e378, hx378_0, hx378_1⟩ := at_T63 HR0_4.out x30_2 oa oa
            cases e378
            replace hx378_0 := cB HB hx378_0
            replace hx378_1 := cB HB hx378_1
            go_wp2_with (first | ((with_reducible refine gate_dst (N := 4) rfl ?_); (try (refine gate_guard (by rfl) ?_; dsimp only)); refine bx_ 4 #[.string (⟨#[]⟩ : ByteArray), .int .i64 0] 63 ?_; intro gb379 hg w36 hbox hb; have BK379 := Aside0.mk (hbox); have GW379 := gs_ hg; have NB375_379 := nl_ hg BK375; have NB379_375 := nr_ hg BK375; replace BK375 := kb_ BK375 hb; replace HB := Aside0.mk (below_step oB hb); clear hb hbox hg; have hnb37 := NB379_375.out; have hnc37 := NB375_379.out; obtain ⟨⟨_, _⟩, _, _⟩ := z2 BK379) | (go_at_call 84; (with_reducible refine (impl_NameOk.calls k2 ((rd_T63 l0_4 x30_2).f0) true _ A19.out).mono ?_); rintro e w' ⟨rfl, ⟨nd, rfl⟩⟩) | (go_at_call 53; (with_reducible refine (impl_from.calls ((rd_T63 l0_4 x30_2).f1) 2 1000 true _ A21.out).mono ?_); rintro e w' ⟨rfl, ⟨nd, rfl⟩⟩))
            repeat (go_quiet (first | (go_at_call 84; (with_reducible refine (impl_NameOk.calls k2 ((rd_T63 l0_4 x30_2).f0) true _ A19.out).mono ?_); rintro e w' ⟨rfl, ⟨nd, rfl⟩⟩; exact oQ) | (go_at_call 53; (with_reducible refine (impl_from.calls ((rd_T63 l0_4 x30_2).f1) 2 1000 true _ A21.out).mono ?_); rintro e w' ⟨rfl, ⟨nd, rfl⟩⟩; exact oQ)); try go_wp2_with (first | ((with_reducible refine gate_dst (N := 4) rfl ?_); (try (refine gate_guard (by rfl) ?_; dsimp only)); refine bx_ 4 #[.string (⟨#[]⟩ : ByteArray), .int .i64 0] 63 ?_; intro gb379 hg w36 hbox hb; have BK379 := Aside0.mk (hbox); have GW379 := gs_ hg; have NB375_379 := nl_ hg BK375; have NB379_375 := nr_ hg BK375; replace BK375 := kb_ BK375 hb; replace HB := Aside0.mk (below_step oB hb); clear hb hbox hg; have hnb37 := NB379_375.out; have hnc37 := NB375_379.out; obtain ⟨⟨_, _⟩, _, _⟩ := z2 BK379) | (go_at_call 84; (with_reducible refine (impl_NameOk.calls k2 ((rd_T63 l0_4 x30_2).f0) true _ A19.out).mono ?_); rintro e w' ⟨rfl, ⟨nd, rfl⟩⟩) | (go_at_call 53; (with_reducible refine (impl_from.calls ((rd_T63 l0_4 x30_2).f1) 2 1000 true _ A21.out).mono ?_); rintro e w' ⟨rfl, ⟨nd, rfl⟩⟩)))
            go_roundg k2
            case measure => have := HJ1.out; have := HK2.out; omega
            case rel => exact ⟨(wrap64 (x30_2 + 1)), oS, H', ⟨by have := HJ1.out; have := HK2.out; omega⟩, ⟨oF BK375⟩, ⟨oB⟩⟩
          ·obtain rfl := Option.some.inj H
           have p378 : (0 ≤ (x30_2 : Int)) = True := oT
           have q378 : (x30_2 < (l0_4.length : Int)) = True := oT
           obtain ⟨ad378, e378, hx378_0, hx378_1⟩ := at_T63 HR0_4.out x30_2 oa oa
           cases e378
           replace hx378_0 := cB HB hx378_0
           replace hx378_1 := cB HB hx378_1
           go_wp2_with (first | ((with_reducible refine gate_dst (N := 4) rfl ?_); (try (refine gate_guard (by rfl) ?_; dsimp only)); refine bx_ 4 #[.string (⟨#[]⟩ : ByteArray), .int .i64 0] 63 ?_; intro gb379 hg w39 hbox hb; have BK379 := Aside0.mk (hbox); have GW379 := gs_ hg; have NB375_379 := nl_ hg BK375; have NB379_375 := nr_ hg BK375; replace BK375 := kb_ BK375 hb; replace HB := Aside0.mk (below_step oB hb); clear hb hbox hg; have hnb40 := NB379_375.out; have hnc40 := NB375_379.out; obtain ⟨⟨_, _⟩, _, _⟩ := z2 BK379) | (go_at_call 84; (with_reducible refine (impl_NameOk.calls k2 ((rd_T63 l0_4 x30_2).f0) true _ A19.out).mono ?_); rintro e w' ⟨rfl, ⟨nd, rfl⟩⟩) | (go_at_call 53; (with_reducible refine (impl_from.calls ((rd_T63 l0_4 x30_2).f1) 2 1000 false _ A21.out).mono ?_); rintro e w' ⟨rfl, ⟨nd, rfl⟩⟩))
           repeat (go_quiet (first | (go_at_call 84; (with_reducible refine (impl_NameOk.calls k2 ((rd_T63 l0_4 x30_2).f0) true _ A19.out).mono ?_); rintro e w' ⟨rfl, ⟨nd, rfl⟩⟩; exact oQ) | (go_at_call 53; (with_reducible refine (impl_from.calls ((rd_T63 l0_4 x30_2).f1) 2 1000 false _ A21.out).mono ?_); rintro e w' ⟨rfl, ⟨nd, rfl⟩⟩; exact oQ)); try go_wp2_with (first | ((with_reducible refine gate_dst (N := 4) rfl ?_); (try (refine gate_guard (by rfl) ?_; dsimp only)); refine bx_ 4 #[.string (⟨#[]⟩ : ByteArray), .int .i64 0] 63 ?_; intro gb379 hg w39 hbox hb; have BK379 := Aside0.mk (hbox); have GW379 := gs_ hg; have NB375_379 := nl_ hg BK375; have NB379_375 := nr_ hg BK375; replace BK375 := kb_ BK375 hb; replace HB := Aside0.mk (below_step oB hb); clear hb hbox hg; have hnb40 := NB379_375.out; have hnc40 := NB375_379.out; obtain ⟨⟨_, _⟩, _, _⟩ := z2 BK379) | (go_at_call 84; (with_reducible refine (impl_NameOk.calls k2 ((rd_T63 l0_4 x30_2).f0) true _ A19.out).mono ?_); rintro e w' ⟨rfl, ⟨nd, rfl⟩⟩) | (go_at_call 53; (with_reducible refine (impl_from.calls ((rd_T63 l0_4 x30_2).f1) 2 1000 false _ A21.out).mono ?_); rintro e w' ⟨rfl, ⟨nd, rfl⟩⟩)))
           go_ret
           exact ⟨oE, oB⟩
         ·obtain rfl := Option.some.inj H
          have p378 : (0 ≤ (x30_2 : Int)) = True := oT
          have q378 : (x30_2 < (l0_4.length : Int)) = True := oT
          obtain ⟨ad378, e378, hx378_0, hx378_1⟩ := at_T63 HR0_4.out x30_2 oa oa
          cases e378
          replace hx378_0 := cB HB hx378_0
          replace hx378_1 := cB HB hx378_1
          go_wp2_with (first | ((with_reducible refine gate_dst (N := 4) rfl ?_); (try (refine gate_guard (by rfl) ?_; dsimp only)); refine bx_ 4 #[.string (⟨#[]⟩ : ByteArray), .int .i64 0] 63 ?_; intro gb379 hg w42 hbox hb; have BK379 := Aside0.mk (hbox); have GW379 := gs_ hg; have NB375_379 := nl_ hg BK375; have NB379_375 := nr_ hg BK375; replace BK375 := kb_ BK375 hb; replace HB := Aside0.mk (below_step oB hb); clear hb hbox hg; have hnb43 := NB379_375.out; have hnc43 := NB375_379.out; obtain ⟨⟨_, _⟩, _, _⟩ := z2 BK379) | (go_at_call 84; (with_reducible refine (impl_NameOk.calls k2 ((rd_T63 l0_4 x30_2).f0) false _ A19.out).mono ?_); rintro e w' ⟨rfl, ⟨nd, rfl⟩⟩))
          repeat (go_quiet (first | (go_at_call 84; (with_reducible refine (impl_NameOk.calls k2 ((rd_T63 l0_4 x30_2).f0) false _ A19.out).mono ?_); rintro e w' ⟨rfl, ⟨nd, rfl⟩⟩; exact oQ)); try go_wp2_with (first | ((with_reducible refine gate_dst (N := 4) rfl ?_); (try (refine gate_guard (by rfl) ?_; dsimp only)); refine bx_ 4 #[.string (⟨#[]⟩ : ByteArray), .int .i64 0] 63 ?_; intro gb379 hg w42 hbox hb; have BK379 := Aside0.mk (hbox); have GW379 := gs_ hg; have NB375_379 := nl_ hg BK375; have NB379_375 := nr_ hg BK375; replace BK375 := kb_ BK375 hb; replace HB := Aside0.mk (below_step oB hb); clear hb hbox hg; have hnb43 := NB379_375.out; have hnc43 := NB375_379.out; obtain ⟨⟨_, _⟩, _, _⟩ := z2 BK379) | (go_at_call 84; (with_reducible refine (impl_NameOk.calls k2 ((rd_T63 l0_4 x30_2).f0) false _ A19.out).mono ?_); rintro e w' ⟨rfl, ⟨nd, rfl⟩⟩)))
          go_ret
          exact ⟨oE, oB⟩
        ·cases H
       ·cases H
      ·have HC45 := Aside0.mk H
       clear H
       go_upto_region 9 with (fail)
       repeat (go_quiet (fail); go_upto_region 9 with (fail))
       go_cut [74] (fun v74 wc => ∃ (kq : Nat) (x74_44 : Bool), v74 = .bool x74_44 ∧ Aside0 (impl_InodeOk.j2 kq x74_44 a0_0 a0_1 a0_2 l0_3 l0_4 l0_5 = some r) ∧ Aside0 (kq ≤ k2) ∧ Aside0 (wc.heap[gb375]? = some (.cells #[.int .i64 a0_0, .int .i64 a0_1, .int .i64 a0_2, (.slice A0_3 l0_3.length c0_3), (.slice A0_4 l0_4.length c0_4), (.slice A0_5 l0_5.length c0_5)] 47 (0, 0))) ∧ Aside0 (Below w.heap.size w wc))
       case first =>
        have H := HC45.out
        clear HC45
        replace H := bA H
        obtain ⟨t383, A46, H⟩ := H
        try dsimp only at H
        replace H := itB H
        rcases H with ⟨rfl, H⟩ | ⟨rfl, H⟩
        ·have H' := Aside0.mk H
         clear H
         obtain ⟨⟨_, _, _, _, _, _⟩, _, _, _, _, _, _⟩ := z6 BK375
         go_wp2_with (first | (go_at_call 53; (with_reducible refine (impl_from.calls a0_2 0 1000 true _ A46.out).mono ?_); rintro e w' ⟨rfl, ⟨nd, rfl⟩⟩))
         repeat (go_quiet (first | (go_at_call 53; (with_reducible refine (impl_from.calls a0_2 0 1000 true _ A46.out).mono ?_); rintro e w' ⟨rfl, ⟨nd, rfl⟩⟩; exact oQ)); try go_wp2_with (first | (go_at_call 53; (with_reducible refine (impl_from.calls a0_2 0 1000 true _ A46.out).mono ?_); rintro e w' ⟨rfl, ⟨nd, rfl⟩⟩)))
         go_meet
         case rel => exact ⟨_, (((a0_2 == 0) != (a0_0 == 1))), oS, H', ⟨by have := HJ1.out; have := HK2.out; first | omega | exact Nat.le_refl _⟩, ⟨oF BK375⟩, ⟨oB⟩⟩
        ·have H' := Aside0.mk H
         clear H
         obtain ⟨⟨_, _, _, _, _, _⟩, _, _, _, _, _, _⟩ := z6 BK375
         go_wp2_with (first | (go_at_call 53; (with_reducible refine (impl_from.calls a0_2 0 1000 false _ A46.out).mono ?_); rintro e w' ⟨rfl, ⟨nd, rfl⟩⟩))
         repeat (go_quiet (first | (go_at_call 53; (with_reducible refine (impl_from.calls a0_2 0 1000 false _ A46.out).mono ?_); rintro e w' ⟨rfl, ⟨nd, rfl⟩⟩; exact oQ)); try go_wp2_with (first | (go_at_call 53; (with_reducible refine (impl_from.calls a0_2 0 1000 false _ A46.out).mono ?_); rintro e w' ⟨rfl, ⟨nd, rfl⟩⟩)))
         go_meet
         case rel => exact ⟨_, (true), oS, H', ⟨by have := HJ1.out; have := HK2.out; first | omega | exact Nat.le_refl _⟩, ⟨oF BK375⟩, ⟨oB⟩⟩
       case rest =>
        clear HC45
        try clear c16b0
        obtain ⟨kq, x74_44, rfl, HA, HJ44, BK375, HB⟩ := hcut
        cases kq with
        | zero => exact absurd HA.out (by simp [impl_InodeOk.j2])
        | succ kj44 =>
         have H := HA.out
         clear HA
         simp only [impl_InodeOk.j2] at H
         replace H := itB H
         rcases H with ⟨rfl, H⟩ | ⟨rfl, H⟩
         ·obtain rfl := Option.some.inj H
          go_wp2
          repeat (go_quiet (fail); try go_wp2)
          go_ret
          exact ⟨oE, oB⟩
         ·by_cases c51 : a0_1 = 1
          ·rw [if_pos c51] at H
           have c51b0 : (a0_1 == 1) = true := beq_iff_eq.mpr c51
           have c51b1 : (a0_1 != 1) = false := bne_eq_false_iff_eq.mpr c51
           clear c51
           obtain rfl := Option.some.inj H
           obtain ⟨⟨_, _, _, _, _, _⟩, _, _, _, _, _, _⟩ := z6 BK375
           go_wp2
           repeat (go_quiet (fail); try go_wp2)
           go_ret
           exact ⟨oE, oB⟩
          ·rw [if_neg c51] at H
           have c51b0 : (a0_1 == 1) = false := beq_eq_false_iff_ne.mpr c51
           have c51b1 : (a0_1 != 1) = true := bne_iff_ne.mpr c51
           by_cases c53 : a0_1 = 2
           ·rw [if_pos c53] at H
            have c53b0 : (a0_1 == 2) = true := beq_iff_eq.mpr c53
            have c53b1 : (a0_1 != 2) = false := bne_eq_false_iff_eq.mpr c53
            clear c53
            by_cases c54 : (l0_3.length : Int) = 0
            ·rw [if_pos c54] at H
             have c54b0 : ((l0_3.length : Int) == 0) = true := beq_iff_eq.mpr c54
             have c54b1 : ((l0_3.length : Int) != 0) = false := bne_eq_false_iff_eq.mpr c54
             clear c54
             obtain rfl := Option.some.inj H
             obtain ⟨⟨_, _, _, _, _, _⟩, _, _, _, _, _, _⟩ := z6 BK375
             go_wp2
             repeat (go_quiet (fail); try go_wp2)
             go_ret
             exact ⟨oE, oB⟩
            ·rw [if_neg c54] at H
             have c54b0 : ((l0_3.length : Int) == 0) = false := beq_eq_false_iff_ne.mpr c54
             have c54b1 : ((l0_3.length : Int) != 0) = true := bne_iff_ne.mpr c54
             have c54b2 : ¬ (l0_3 = []) := fun h_ => c54 (by rw [h_]; rfl)
             obtain rfl := Option.some.inj H
             obtain ⟨⟨_, _, _, _, _, _⟩, _, _, _, _, _, _⟩ := z6 BK375
             go_wp2
             repeat (go_quiet (fail); try go_wp2)
             go_ret
             exact ⟨oE, oB⟩
           ·rw [if_neg c53] at H
            have c53b0 : (a0_1 == 2) = false := beq_eq_false_iff_ne.mpr c53
            have c53b1 : (a0_1 != 2) = true := bne_iff_ne.mpr c53
            obtain rfl := Option.some.inj H
            obtain ⟨⟨_, _, _, _, _, _⟩, _, _, _, _, _, _⟩ := z6 BK375
            go_wp2
            repeat (go_quiet (fail); try go_wp2)
            go_ret
            exact ⟨oE, oB⟩

end Go.Proofs.YtolkhimbfegkkaaGreat.P
