-- By this session's own program (wip/myprint.py) out of the translation; Lean checks it.
import Derived.Test.YtkknehgaebhbeaaPx0
import Derived.Test.YtkknehgaebhbeaaPx5
namespace Go.Proofs.Ytkknehgaebhbeaa.P
open Go.RowKit Go.Proofs.YtkknehgaebhbeaaW.PrintWords Go.Proofs.YtkknehgaebhbeaaW.PrintLast Go.Proofs.YtkknehgaebhbeaaW.PrintMore
attribute [local go_sem] max2_int min2_int max_two min_two max_three min_three max_four min_four   -- for this text's walks alone
set_option linter.unusedVariables false
set_option linter.unusedSimpArgs false

/-! ### impl_attrsOk: function 91 -/
def impl_attrsOk.l0 : Nat → List (S85) → List (S85) → Int → Int → Option (Bool)
 | 0, _, _, _, _ => none
 | k + 1, x0, x5, x6, x7 => if x7 < x6 then (if 0 ≤ x7 then (if x7 < (x5.length : Int) then ((impl_NameOk.f k ((rd_T85 x5 x7).f0)).bind fun t229 => (if t229 = true then ((impl_from.f (((rd_T85 x5 x7).f1).size : Int) 1 16).bind fun t230 => (if t230 = true then (if x7 > 0 then (if 0 ≤ (wrap64 (x7 - 1)) then (if (wrap64 (x7 - 1)) < (x0.length : Int) then (if ((Op.bytesLess (((rd_T85 x0 (wrap64 (x7 - 1))).f0).toList) (((rd_T85 x5 x7).f0).toList)) = true) then (impl_attrsOk.l0 k x0 x5 x6 (wrap64 (x7 + 1))) else (some false)) else (none)) else (none)) else (impl_attrsOk.l0 k x0 x5 x6 (wrap64 (x7 + 1)))) else (some false))) else (some false))) else (none)) else (none)) else (some (decide ((x0.length : Int) ≤ 4)))
def impl_attrsOk.f (k : Nat) (l0 : List (S85)) : Option (Bool) := impl_attrsOk.l0 k l0 l0 (l0.length : Int) 0
set_option maxHeartbeats 8000000 in
set_option maxRecDepth 100000 in
theorem impl_attrsOk.calls (k : Nat) (A0 : Option Addr) (c0 : Nat) (l0 : List (S85)) (r : Bool) (w : World) (hr0 : Kd.C k85 w A0 l0.length l0) (hc0 : l0.length ≤ c0) (h : impl_attrsOk.f k l0 = some r) :
  Calls Try.prog 91 #[.slice A0 l0.length c0] w fun e w' => e = .returned (.bool r) ∧ Below w.heap.size w w' := by
 have hu85 := Try.underlying85
 have HR0 := Aside0.mk hr0
 have HC0 := Aside0.mk hc0
 clear hr0 hc0
 have HB := Aside0.mk (Below.refl w.heap.size w)
 unfold impl_attrsOk.f at h
 have H := h
 clear h
 have H' := Aside0.mk H
 clear H
 go_enter Try.func91, Try.ntmps91
 go_wp2
 repeat (go_quiet (fail); try go_wp2)
 go_loopg [7] k (fun kq v7 w' => ∃ (x7_1 : Int), v7 = .int .i64 x7_1 ∧ Aside0 (impl_attrsOk.l0 kq l0 l0 (l0.length : Int) x7_1 = some r) ∧ Aside0 (kq ≤ k) ∧ Aside0 (Below w.heap.size w w'))
 case atStart => exact ⟨(0), oS, H', ⟨Nat.le_refl _⟩, ⟨oB⟩⟩
 case round =>
  clear H'
  obtain ⟨x7_1, rfl, HA, HK1, HB⟩ := hrel
  cases gk with
  | zero => exact absurd HA.out (by simp [impl_attrsOk.l0])
  | succ k1 =>
   have H := HA.out
   clear HA
   simp only [impl_attrsOk.l0] at H
   replace H := itD H
   rcases H with ⟨c2b0, H⟩ | ⟨c2b0, H⟩
   ·replace H := itD H
    rcases H with ⟨c3b0, H⟩ | ⟨c3b0, H⟩
    ·replace H := itD H
     rcases H with ⟨c4b0, H⟩ | ⟨c4b0, H⟩
     ·replace H := bA H
      obtain ⟨t229, A5, H⟩ := H
      try dsimp only at H
      replace H := itB H
      rcases H with ⟨rfl, H⟩ | ⟨rfl, H⟩
      ·replace H := bA H
       obtain ⟨t230, A7, H⟩ := H
       try dsimp only at H
       replace H := itB H
       rcases H with ⟨rfl, H⟩ | ⟨rfl, H⟩
       ·replace H := itG H
        rcases H with ⟨c9b0, H⟩ | ⟨c9b0, H⟩
        ·obtain ⟨ji10, hji10⟩ : ∃ j_ : Int, (wrap64 (x7_1 - 1)) = j_ := ⟨_, rfl⟩
         replace H : (if 0 ≤ (ji10) then (if (ji10) < (l0.length : Int) then (if ((Op.bytesLess (((rd_T85 l0 (ji10)).f0).toList) (((rd_T85 l0 x7_1).f0).toList)) = true) then (impl_attrsOk.l0 k1 l0 l0 (l0.length : Int) (wrap64 (x7_1 + 1))) else (some false)) else (none)) else (none)) = some r := by first | (rw [hji10] at H; exact H) | (simp only [hji10] at H ⊢; exact H)
         (try rw [hji10] at A5)
         (try rw [hji10] at A7)
         have hji10w : (IntKind.i64.wrap (x7_1 - 1)) = ji10 := (i64_w _).trans hji10
         replace H := itD H
         rcases H with ⟨c11b0, H⟩ | ⟨c11b0, H⟩
         ·replace H := itD H
          rcases H with ⟨c12b0, H⟩ | ⟨c12b0, H⟩
          ·by_cases c13 : ((Op.bytesLess (((rd_T85 l0 (ji10)).f0).toList) (((rd_T85 l0 x7_1).f0).toList)) = true)
           ·rw [if_pos c13] at H
            have c13b0 : (Op.bytesLess (((rd_T85 l0 (ji10)).f0).toList) (((rd_T85 l0 x7_1).f0).toList)) = true := c13
            clear c13
            have H' := Aside0.mk H
            clear H
            have p227 : (0 ≤ (x7_1 : Int)) = True := oT
            have q227 : (x7_1 < (l0.length : Int)) = True := oT
            obtain ⟨ad227, e227, hx227_0, hx227_1⟩ := at_T85 HR0.out x7_1 oa oa
            cases e227
            replace hx227_0 := cB HB hx227_0
            replace hx227_1 := cB HB hx227_1
            go_wp2_with (first | ((with_reducible refine gate_dst (N := 4) rfl ?_); (try (refine gate_guard (by rfl) ?_; dsimp only)); refine bx_ 4 #[.string (⟨#[]⟩ : ByteArray), .string (⟨#[]⟩ : ByteArray)] 85 ?_; intro gb228 hg w14 hbox hb; have BK228 := Aside0.mk (hbox); have GW228 := gs_ hg; have GE228 := gs_ hg; replace HB := Aside0.mk (below_step oB hb); clear hb hbox hg; obtain ⟨⟨_, _⟩, _, _⟩ := z2 BK228) | (go_at_call 92; (with_reducible refine (impl_NameOk.calls k1 ((rd_T85 l0 x7_1).f0) true _ A5.out).mono ?_); rintro e w' ⟨rfl, ⟨nd, rfl⟩⟩) | (go_at_call 90; (with_reducible refine (impl_from.calls (((rd_T85 l0 x7_1).f1).size : Int) 1 16 true _ A7.out).mono ?_); rintro e w' ⟨rfl, ⟨nd, rfl⟩⟩; have p231 : (0 ≤ ((ji10) : Int)) = True := oT; have q231 : ((ji10) < (l0.length : Int)) = True := oT; obtain ⟨ad231, e231, hx231_0, hx231_1⟩ := at_T85 HR0.out (ji10) oa oa; obtain rfl : ad227 = ad231 := (by injection e231); have hn231_0 : ad227.block ≠ gb228 := Nat.ne_of_lt (Nat.lt_of_lt_of_le (by have := World.block_lt_of_cell? _ _ hx231_0; first | rwa [add_block] at this | exact this) GW228.out); have hn231_1 : ad227.block ≠ gb228 := Nat.ne_of_lt (Nat.lt_of_lt_of_le (by have := World.block_lt_of_cell? _ _ hx231_0; first | rwa [add_block] at this | exact this) GW228.out); replace hx231_0 := cB HB hx231_0; replace hx231_1 := cB HB hx231_1; replace hx231_0 := (cell_far (p := ⟨gb228, 0, none⟩) (by first | (rw [add_block]; exact hn231_0) | (show (Addr.add _ _).block ≠ _; rw [add_block]; exact hn231_0) | exact hn231_0) (.string ((rd_T85 l0 x7_1).f0))).trans hx231_0; replace hx231_1 := (cell_far (p := ⟨gb228, 0, none⟩) (by first | (rw [add_block]; exact hn231_0) | (show (Addr.add _ _).block ≠ _; rw [add_block]; exact hn231_0) | exact hn231_0) (.string ((rd_T85 l0 x7_1).f0))).trans hx231_1; replace hx231_0 := (cell_far (p := ⟨gb228, 1, none⟩) (by first | (rw [add_block]; exact hn231_1) | (show (Addr.add _ _).block ≠ _; rw [add_block]; exact hn231_1) | exact hn231_1) (.string ((rd_T85 l0 x7_1).f1))).trans hx231_0; replace hx231_1 := (cell_far (p := ⟨gb228, 1, none⟩) (by first | (rw [add_block]; exact hn231_1) | (show (Addr.add _ _).block ≠ _; rw [add_block]; exact hn231_1) | exact hn231_1) (.string ((rd_T85 l0 x7_1).f1))).trans hx231_1; (try have hy231_0 := fun (n_ : Nat) => (show ((((w14.drewN n_).setCell ⟨gb228, 0, none⟩ (.string ((rd_T85 l0 x7_1).f0))).setCell ⟨gb228, 1, none⟩ (.string ((rd_T85 l0 x7_1).f1)))).cell? _ = some _ from hx231_0)); (try have hy231_1 := fun (n_ : Nat) => (show ((((w14.drewN n_).setCell ⟨gb228, 0, none⟩ (.string ((rd_T85 l0 x7_1).f0))).setCell ⟨gb228, 1, none⟩ (.string ((rd_T85 l0 x7_1).f1)))).cell? _ = some _ from hx231_1)); clear hn231_0; clear hn231_1))
            try (have p231 : 0 ≤ ((ji10) : Int) := oa; have q231 : (ji10) < (l0.length : Int) := oa; obtain ⟨ad231, e231, hx231_0, hx231_1⟩ := at_T85 HR0.out (ji10) p231 q231; obtain rfl : ad227 = ad231 := (by injection e231); have hn231_0 : ad227.block ≠ gb228 := Nat.ne_of_lt (Nat.lt_of_lt_of_le (by have := World.block_lt_of_cell? _ _ hx231_0; first | rwa [add_block] at this | exact this) GW228.out); have hn231_1 : ad227.block ≠ gb228 := Nat.ne_of_lt (Nat.lt_of_lt_of_le (by have := World.block_lt_of_cell? _ _ hx231_0; first | rwa [add_block] at this | exact this) GW228.out); replace hx231_0 := cB HB hx231_0; replace hx231_1 := cB HB hx231_1; replace hx231_0 := (cell_far (p := ⟨gb228, 0, none⟩) (by first | (rw [add_block]; exact hn231_0) | (show (Addr.add _ _).block ≠ _; rw [add_block]; exact hn231_0) | exact hn231_0) (.string ((rd_T85 l0 x7_1).f0))).trans hx231_0; replace hx231_1 := (cell_far (p := ⟨gb228, 0, none⟩) (by first | (rw [add_block]; exact hn231_0) | (show (Addr.add _ _).block ≠ _; rw [add_block]; exact hn231_0) | exact hn231_0) (.string ((rd_T85 l0 x7_1).f0))).trans hx231_1; replace hx231_0 := (cell_far (p := ⟨gb228, 1, none⟩) (by first | (rw [add_block]; exact hn231_1) | (show (Addr.add _ _).block ≠ _; rw [add_block]; exact hn231_1) | exact hn231_1) (.string ((rd_T85 l0 x7_1).f1))).trans hx231_0; replace hx231_1 := (cell_far (p := ⟨gb228, 1, none⟩) (by first | (rw [add_block]; exact hn231_1) | (show (Addr.add _ _).block ≠ _; rw [add_block]; exact hn231_1) | exact hn231_1) (.string ((rd_T85 l0 x7_1).f1))).trans hx231_1; (try have hy231_0 := fun (n_ : Nat) => (show ((((w14.drewN n_).setCell ⟨gb228, 0, none⟩ (.string ((rd_T85 l0 x7_1).f0))).setCell ⟨gb228, 1, none⟩ (.string ((rd_T85 l0 x7_1).f1)))).cell? _ = some _ from hx231_0)); (try have hy231_1 := fun (n_ : Nat) => (show ((((w14.drewN n_).setCell ⟨gb228, 0, none⟩ (.string ((rd_T85 l0 x7_1).f0))).setCell ⟨gb228, 1, none⟩ (.string ((rd_T85 l0 x7_1).f1)))).cell? _ = some _ from hx231_1)); clear hn231_0; clear hn231_1; replace p231 := eq_true p231; replace q231 := eq_true q231)
            repeat (go_quiet (first | (go_at_call 92; (with_reducible refine (impl_NameOk.calls k1 ((rd_T85 l0 x7_1).f0) true _ A5.out).mono ?_); rintro e w' ⟨rfl, ⟨nd, rfl⟩⟩; exact oQ) | (go_at_call 90; (with_reducible refine (impl_from.calls (((rd_T85 l0 x7_1).f1).size : Int) 1 16 true _ A7.out).mono ?_); rintro e w' ⟨rfl, ⟨nd, rfl⟩⟩; exact oQ)); try go_wp2_with (first | ((with_reducible refine gate_dst (N := 4) rfl ?_); (try (refine gate_guard (by rfl) ?_; dsimp only)); refine bx_ 4 #[.string (⟨#[]⟩ : ByteArray), .string (⟨#[]⟩ : ByteArray)] 85 ?_; intro gb228 hg w14 hbox hb; have BK228 := Aside0.mk (hbox); have GW228 := gs_ hg; have GE228 := gs_ hg; replace HB := Aside0.mk (below_step oB hb); clear hb hbox hg; obtain ⟨⟨_, _⟩, _, _⟩ := z2 BK228) | (go_at_call 92; (with_reducible refine (impl_NameOk.calls k1 ((rd_T85 l0 x7_1).f0) true _ A5.out).mono ?_); rintro e w' ⟨rfl, ⟨nd, rfl⟩⟩) | (go_at_call 90; (with_reducible refine (impl_from.calls (((rd_T85 l0 x7_1).f1).size : Int) 1 16 true _ A7.out).mono ?_); rintro e w' ⟨rfl, ⟨nd, rfl⟩⟩; have p231 : (0 ≤ ((ji10) : Int)) = True := oT; have q231 : ((ji10) < (l0.length : Int)) = True := oT; obtain ⟨ad231, e231, hx231_0, hx231_1⟩ := at_T85 HR0.out (ji10) oa oa; obtain rfl : ad227 = ad231 := (by injection e231); have hn231_0 : ad227.block ≠ gb228 := Nat.ne_of_lt (Nat.lt_of_lt_of_le (by have := World.block_lt_of_cell? _ _ hx231_0; first | rwa [add_block] at this | exact this) GW228.out); have hn231_1 : ad227.block ≠ gb228 := Nat.ne_of_lt (Nat.lt_of_lt_of_le (by have := World.block_lt_of_cell? _ _ hx231_0; first | rwa [add_block] at this | exact this) GW228.out); replace hx231_0 := cB HB hx231_0; replace hx231_1 := cB HB hx231_1; replace hx231_0 := (cell_far (p := ⟨gb228, 0, none⟩) (by first | (rw [add_block]; exact hn231_0) | (show (Addr.add _ _).block ≠ _; rw [add_block]; exact hn231_0) | exact hn231_0) (.string ((rd_T85 l0 x7_1).f0))).trans hx231_0; replace hx231_1 := (cell_far (p := ⟨gb228, 0, none⟩) (by first | (rw [add_block]; exact hn231_0) | (show (Addr.add _ _).block ≠ _; rw [add_block]; exact hn231_0) | exact hn231_0) (.string ((rd_T85 l0 x7_1).f0))).trans hx231_1; replace hx231_0 := (cell_far (p := ⟨gb228, 1, none⟩) (by first | (rw [add_block]; exact hn231_1) | (show (Addr.add _ _).block ≠ _; rw [add_block]; exact hn231_1) | exact hn231_1) (.string ((rd_T85 l0 x7_1).f1))).trans hx231_0; replace hx231_1 := (cell_far (p := ⟨gb228, 1, none⟩) (by first | (rw [add_block]; exact hn231_1) | (show (Addr.add _ _).block ≠ _; rw [add_block]; exact hn231_1) | exact hn231_1) (.string ((rd_T85 l0 x7_1).f1))).trans hx231_1; (try have hy231_0 := fun (n_ : Nat) => (show ((((w14.drewN n_).setCell ⟨gb228, 0, none⟩ (.string ((rd_T85 l0 x7_1).f0))).setCell ⟨gb228, 1, none⟩ (.string ((rd_T85 l0 x7_1).f1)))).cell? _ = some _ from hx231_0)); (try have hy231_1 := fun (n_ : Nat) => (show ((((w14.drewN n_).setCell ⟨gb228, 0, none⟩ (.string ((rd_T85 l0 x7_1).f0))).setCell ⟨gb228, 1, none⟩ (.string ((rd_T85 l0 x7_1).f1)))).cell? _ = some _ from hx231_1)); clear hn231_0; clear hn231_1)))
            go_roundg k1
            case measure => have := HK1.out; omega
            case rel => exact ⟨(wrap64 (x7_1 + 1)), oS, H', ⟨by have := HK1.out; omega⟩, ⟨oB⟩⟩
           ·rw [if_neg c13] at H
            have c13b0 : (Op.bytesLess (((rd_T85 l0 (ji10)).f0).toList) (((rd_T85 l0 x7_1).f0).toList)) = false := by simpa using c13
            clear c13
            obtain rfl := Option.some.inj H
            have p227 : (0 ≤ (x7_1 : Int)) = True := oT
            have q227 : (x7_1 < (l0.length : Int)) = True := oT
            obtain ⟨ad227, e227, hx227_0, hx227_1⟩ := at_T85 HR0.out x7_1 oa oa
            cases e227
            replace hx227_0 := cB HB hx227_0
            replace hx227_1 := cB HB hx227_1
            go_wp2_with (first | ((with_reducible refine gate_dst (N := 4) rfl ?_); (try (refine gate_guard (by rfl) ?_; dsimp only)); refine bx_ 4 #[.string (⟨#[]⟩ : ByteArray), .string (⟨#[]⟩ : ByteArray)] 85 ?_; intro gb228 hg w16 hbox hb; have BK228 := Aside0.mk (hbox); have GW228 := gs_ hg; have GE228 := gs_ hg; replace HB := Aside0.mk (below_step oB hb); clear hb hbox hg; obtain ⟨⟨_, _⟩, _, _⟩ := z2 BK228) | (go_at_call 92; (with_reducible refine (impl_NameOk.calls k1 ((rd_T85 l0 x7_1).f0) true _ A5.out).mono ?_); rintro e w' ⟨rfl, ⟨nd, rfl⟩⟩) | (go_at_call 90; (with_reducible refine (impl_from.calls (((rd_T85 l0 x7_1).f1).size : Int) 1 16 true _ A7.out).mono ?_); rintro e w' ⟨rfl, ⟨nd, rfl⟩⟩; have p231 : (0 ≤ ((ji10) : Int)) = True := oT; have q231 : ((ji10) < (l0.length : Int)) = True := oT; obtain ⟨ad231, e231, hx231_0, hx231_1⟩ := at_T85 HR0.out (ji10) oa oa; obtain rfl : ad227 = ad231 := (by injection e231); have hn231_0 : ad227.block ≠ gb228 := Nat.ne_of_lt (Nat.lt_of_lt_of_le (by have := World.block_lt_of_cell? _ _ hx231_0; first | rwa [add_block] at this | exact this) GW228.out); have hn231_1 : ad227.block ≠ gb228 := Nat.ne_of_lt (Nat.lt_of_lt_of_le (by have := World.block_lt_of_cell? _ _ hx231_0; first | rwa [add_block] at this | exact this) GW228.out); replace hx231_0 := cB HB hx231_0; replace hx231_1 := cB HB hx231_1; replace hx231_0 := (cell_far (p := ⟨gb228, 0, none⟩) (by first | (rw [add_block]; exact hn231_0) | (show (Addr.add _ _).block ≠ _; rw [add_block]; exact hn231_0) | exact hn231_0) (.string ((rd_T85 l0 x7_1).f0))).trans hx231_0; replace hx231_1 := (cell_far (p := ⟨gb228, 0, none⟩) (by first | (rw [add_block]; exact hn231_0) | (show (Addr.add _ _).block ≠ _; rw [add_block]; exact hn231_0) | exact hn231_0) (.string ((rd_T85 l0 x7_1).f0))).trans hx231_1; replace hx231_0 := (cell_far (p := ⟨gb228, 1, none⟩) (by first | (rw [add_block]; exact hn231_1) | (show (Addr.add _ _).block ≠ _; rw [add_block]; exact hn231_1) | exact hn231_1) (.string ((rd_T85 l0 x7_1).f1))).trans hx231_0; replace hx231_1 := (cell_far (p := ⟨gb228, 1, none⟩) (by first | (rw [add_block]; exact hn231_1) | (show (Addr.add _ _).block ≠ _; rw [add_block]; exact hn231_1) | exact hn231_1) (.string ((rd_T85 l0 x7_1).f1))).trans hx231_1; (try have hy231_0 := fun (n_ : Nat) => (show ((((w16.drewN n_).setCell ⟨gb228, 0, none⟩ (.string ((rd_T85 l0 x7_1).f0))).setCell ⟨gb228, 1, none⟩ (.string ((rd_T85 l0 x7_1).f1)))).cell? _ = some _ from hx231_0)); (try have hy231_1 := fun (n_ : Nat) => (show ((((w16.drewN n_).setCell ⟨gb228, 0, none⟩ (.string ((rd_T85 l0 x7_1).f0))).setCell ⟨gb228, 1, none⟩ (.string ((rd_T85 l0 x7_1).f1)))).cell? _ = some _ from hx231_1)); clear hn231_0; clear hn231_1))
            try (have p231 : 0 ≤ ((ji10) : Int) := oa; have q231 : (ji10) < (l0.length : Int) := oa; obtain ⟨ad231, e231, hx231_0, hx231_1⟩ := at_T85 HR0.out (ji10) p231 q231; obtain rfl : ad227 = ad231 := (by injection e231); have hn231_0 : ad227.block ≠ gb228 := Nat.ne_of_lt (Nat.lt_of_lt_of_le (by have := World.block_lt_of_cell? _ _ hx231_0; first | rwa [add_block] at this | exact this) GW228.out); have hn231_1 : ad227.block ≠ gb228 := Nat.ne_of_lt (Nat.lt_of_lt_of_le (by have := World.block_lt_of_cell? _ _ hx231_0; first | rwa [add_block] at this | exact this) GW228.out); replace hx231_0 := cB HB hx231_0; replace hx231_1 := cB HB hx231_1; replace hx231_0 := (cell_far (p := ⟨gb228, 0, none⟩) (by first | (rw [add_block]; exact hn231_0) | (show (Addr.add _ _).block ≠ _; rw [add_block]; exact hn231_0) | exact hn231_0) (.string ((rd_T85 l0 x7_1).f0))).trans hx231_0; replace hx231_1 := (cell_far (p := ⟨gb228, 0, none⟩) (by first | (rw [add_block]; exact hn231_0) | (show (Addr.add _ _).block ≠ _; rw [add_block]; exact hn231_0) | exact hn231_0) (.string ((rd_T85 l0 x7_1).f0))).trans hx231_1; replace hx231_0 := (cell_far (p := ⟨gb228, 1, none⟩) (by first | (rw [add_block]; exact hn231_1) | (show (Addr.add _ _).block ≠ _; rw [add_block]; exact hn231_1) | exact hn231_1) (.string ((rd_T85 l0 x7_1).f1))).trans hx231_0; replace hx231_1 := (cell_far (p := ⟨gb228, 1, none⟩) (by first | (rw [add_block]; exact hn231_1) | (show (Addr.add _ _).block ≠ _; rw [add_block]; exact hn231_1) | exact hn231_1) (.string ((rd_T85 l0 x7_1).f1))).trans hx231_1; (try have hy231_0 := fun (n_ : Nat) => (show ((((w16.drewN n_).setCell ⟨gb228, 0, none⟩ (.string ((rd_T85 l0 x7_1).f0))).setCell ⟨gb228, 1, none⟩ (.string ((rd_T85 l0 x7_1).f1)))).cell? _ = some _ from hx231_0)); (try have hy231_1 := fun (n_ : Nat) => (show ((((w16.drewN n_).setCell ⟨gb228, 0, none⟩ (.string ((rd_T85 l0 x7_1).f0))).setCell ⟨gb228, 1, none⟩ (.string ((rd_T85 l0 x7_1).f1)))).cell? _ = some _ from hx231_1)); clear hn231_0; clear hn231_1; replace p231 := eq_true p231; replace q231 := eq_true q231)
            repeat (go_quiet (first | (go_at_call 92; (with_reducible refine (impl_NameOk.calls k1 ((rd_T85 l0 x7_1).f0) true _ A5.out).mono ?_); rintro e w' ⟨rfl, ⟨nd, rfl⟩⟩; exact oQ) | (go_at_call 90; (with_reducible refine (impl_from.calls (((rd_T85 l0 x7_1).f1).size : Int) 1 16 true _ A7.out).mono ?_); rintro e w' ⟨rfl, ⟨nd, rfl⟩⟩; exact oQ)); try go_wp2_with (first | ((with_reducible refine gate_dst (N := 4) rfl ?_); (try (refine gate_guard (by rfl) ?_; dsimp only)); refine bx_ 4 #[.string (⟨#[]⟩ : ByteArray), .string (⟨#[]⟩ : ByteArray)] 85 ?_; intro gb228 hg w16 hbox hb; have BK228 := Aside0.mk (hbox); have GW228 := gs_ hg; have GE228 := gs_ hg; replace HB := Aside0.mk (below_step oB hb); clear hb hbox hg; obtain ⟨⟨_, _⟩, _, _⟩ := z2 BK228) | (go_at_call 92; (with_reducible refine (impl_NameOk.calls k1 ((rd_T85 l0 x7_1).f0) true _ A5.out).mono ?_); rintro e w' ⟨rfl, ⟨nd, rfl⟩⟩) | (go_at_call 90; (with_reducible refine (impl_from.calls (((rd_T85 l0 x7_1).f1).size : Int) 1 16 true _ A7.out).mono ?_); rintro e w' ⟨rfl, ⟨nd, rfl⟩⟩; have p231 : (0 ≤ ((ji10) : Int)) = True := oT; have q231 : ((ji10) < (l0.length : Int)) = True := oT; obtain ⟨ad231, e231, hx231_0, hx231_1⟩ := at_T85 HR0.out (ji10) oa oa; obtain rfl : ad227 = ad231 := (by injection e231); have hn231_0 : ad227.block ≠ gb228 := Nat.ne_of_lt (Nat.lt_of_lt_of_le (by have := World.block_lt_of_cell? _ _ hx231_0; first | rwa [add_block] at this | exact this) GW228.out); have hn231_1 : ad227.block ≠ gb228 := Nat.ne_of_lt (Nat.lt_of_lt_of_le (by have := World.block_lt_of_cell? _ _ hx231_0; first | rwa [add_block] at this | exact this) GW228.out); replace hx231_0 := cB HB hx231_0; replace hx231_1 := cB HB hx231_1; replace hx231_0 := (cell_far (p := ⟨gb228, 0, none⟩) (by first | (rw [add_block]; exact hn231_0) | (show (Addr.add _ _).block ≠ _; rw [add_block]; exact hn231_0) | exact hn231_0) (.string ((rd_T85 l0 x7_1).f0))).trans hx231_0; replace hx231_1 := (cell_far (p := ⟨gb228, 0, none⟩) (by first | (rw [add_block]; exact hn231_0) | (show (Addr.add _ _).block ≠ _; rw [add_block]; exact hn231_0) | exact hn231_0) (.string ((rd_T85 l0 x7_1).f0))).trans hx231_1; replace hx231_0 := (cell_far (p := ⟨gb228, 1, none⟩) (by first | (rw [add_block]; exact hn231_1) | (show (Addr.add _ _).block ≠ _; rw [add_block]; exact hn231_1) | exact hn231_1) (.string ((rd_T85 l0 x7_1).f1))).trans hx231_0; replace hx231_1 := (cell_far (p := ⟨gb228, 1, none⟩) (by first | (rw [add_block]; exact hn231_1) | (show (Addr.add _ _).block ≠ _; rw [add_block]; exact hn231_1) | exact hn231_1) (.string ((rd_T85 l0 x7_1).f1))).trans hx231_1; (try have hy231_0 := fun (n_ : Nat) => (show ((((w16.drewN n_).setCell ⟨gb228, 0, none⟩ (.string ((rd_T85 l0 x7_1).f0))).setCell ⟨gb228, 1, none⟩ (.string ((rd_T85 l0 x7_1).f1)))).cell? _ = some _ from hx231_0)); (try have hy231_1 := fun (n_ : Nat) => (show ((((w16.drewN n_).setCell ⟨gb228, 0, none⟩ (.string ((rd_T85 l0 x7_1).f0))).setCell ⟨gb228, 1, none⟩ (.string ((rd_T85 l0 x7_1).f1)))).cell? _ = some _ from hx231_1)); clear hn231_0; clear hn231_1)))
            go_ret
            exact ⟨by first | rfl | (simp [errW_none, errW_some] <;> rfl) | (simp only [← hji10]; first | rfl | (simp [errW_none, errW_some] <;> rfl)) | (simp [*, errW_none, errW_some] <;> rfl), oB⟩
          ·cases H
         ·cases H
        ·have H' := Aside0.mk H
         clear H
         have p227 : (0 ≤ (x7_1 : Int)) = True := oT
         have q227 : (x7_1 < (l0.length : Int)) = True := oT
         obtain ⟨ad227, e227, hx227_0, hx227_1⟩ := at_T85 HR0.out x7_1 oa oa
         cases e227
         replace hx227_0 := cB HB hx227_0
         replace hx227_1 := cB HB hx227_1
         go_wp2_with (first | ((with_reducible refine gate_dst (N := 4) rfl ?_); (try (refine gate_guard (by rfl) ?_; dsimp only)); refine bx_ 4 #[.string (⟨#[]⟩ : ByteArray), .string (⟨#[]⟩ : ByteArray)] 85 ?_; intro gb228 hg w18 hbox hb; have BK228 := Aside0.mk (hbox); have GW228 := gs_ hg; have GE228 := gs_ hg; replace HB := Aside0.mk (below_step oB hb); clear hb hbox hg; obtain ⟨⟨_, _⟩, _, _⟩ := z2 BK228) | (go_at_call 92; (with_reducible refine (impl_NameOk.calls k1 ((rd_T85 l0 x7_1).f0) true _ A5.out).mono ?_); rintro e w' ⟨rfl, ⟨nd, rfl⟩⟩) | (go_at_call 90; (with_reducible refine (impl_from.calls (((rd_T85 l0 x7_1).f1).size : Int) 1 16 true _ A7.out).mono ?_); rintro e w' ⟨rfl, ⟨nd, rfl⟩⟩))
         repeat (go_quiet (first | (go_at_call 92; (with_reducible refine (impl_NameOk.calls k1 ((rd_T85 l0 x7_1).f0) true _ A5.out).mono ?_); rintro e w' ⟨rfl, ⟨nd, rfl⟩⟩; exact oQ) | (go_at_call 90; (with_reducible refine (impl_from.calls (((rd_T85 l0 x7_1).f1).size : Int) 1 16 true _ A7.out).mono ?_); rintro e w' ⟨rfl, ⟨nd, rfl⟩⟩; exact oQ)); try go_wp2_with (first | ((with_reducible refine gate_dst (N := 4) rfl ?_); (try (refine gate_guard (by rfl) ?_; dsimp only)); refine bx_ 4 #[.string (⟨#[]⟩ : ByteArray), .string (⟨#[]⟩ : ByteArray)] 85 ?_; intro gb228 hg w18 hbox hb; have BK228 := Aside0.mk (hbox); have GW228 := gs_ hg; have GE228 := gs_ hg; replace HB := Aside0.mk (below_step oB hb); clear hb hbox hg; obtain ⟨⟨_, _⟩, _, _⟩ := z2 BK228) | (go_at_call 92; (with_reducible refine (impl_NameOk.calls k1 ((rd_T85 l0 x7_1).f0) true _ A5.out).mono ?_); rintro e w' ⟨rfl, ⟨nd, rfl⟩⟩) | (go_at_call 90; (with_reducible refine (impl_from.calls (((rd_T85 l0 x7_1).f1).size : Int) 1 16 true _ A7.out).mono ?_); rintro e w' ⟨rfl, ⟨nd, rfl⟩⟩)))
         go_roundg k1
         case measure => have := HK1.out; omega
         case rel => exact ⟨(wrap64 (x7_1 + 1)), oS, H', ⟨by have := HK1.out; omega⟩, ⟨oB⟩⟩
       ·obtain rfl := Option.some.inj H
        have p227 : (0 ≤ (x7_1 : Int)) = True := oT
        have q227 : (x7_1 < (l0.length : Int)) = True := oT
        obtain ⟨ad227, e227, hx227_0, hx227_1⟩ := at_T85 HR0.out x7_1 oa oa
        cases e227
        replace hx227_0 := cB HB hx227_0
        replace hx227_1 := cB HB hx227_1
        go_wp2_with (first | ((with_reducible refine gate_dst (N := 4) rfl ?_); (try (refine gate_guard (by rfl) ?_; dsimp only)); refine bx_ 4 #[.string (⟨#[]⟩ : ByteArray), .string (⟨#[]⟩ : ByteArray)] 85 ?_; intro gb228 hg w20 hbox hb; have BK228 := Aside0.mk (hbox); have GW228 := gs_ hg; have GE228 := gs_ hg; replace HB := Aside0.mk (below_step oB hb); clear hb hbox hg; obtain ⟨⟨_, _⟩, _, _⟩ := z2 BK228) | (go_at_call 92; (with_reducible refine (impl_NameOk.calls k1 ((rd_T85 l0 x7_1).f0) true _ A5.out).mono ?_); rintro e w' ⟨rfl, ⟨nd, rfl⟩⟩) | (go_at_call 90; (with_reducible refine (impl_from.calls (((rd_T85 l0 x7_1).f1).size : Int) 1 16 false _ A7.out).mono ?_); rintro e w' ⟨rfl, ⟨nd, rfl⟩⟩))
        repeat (go_quiet (first | (go_at_call 92; (with_reducible refine (impl_NameOk.calls k1 ((rd_T85 l0 x7_1).f0) true _ A5.out).mono ?_); rintro e w' ⟨rfl, ⟨nd, rfl⟩⟩; exact oQ) | (go_at_call 90; (with_reducible refine (impl_from.calls (((rd_T85 l0 x7_1).f1).size : Int) 1 16 false _ A7.out).mono ?_); rintro e w' ⟨rfl, ⟨nd, rfl⟩⟩; exact oQ)); try go_wp2_with (first | ((with_reducible refine gate_dst (N := 4) rfl ?_); (try (refine gate_guard (by rfl) ?_; dsimp only)); refine bx_ 4 #[.string (⟨#[]⟩ : ByteArray), .string (⟨#[]⟩ : ByteArray)] 85 ?_; intro gb228 hg w20 hbox hb; have BK228 := Aside0.mk (hbox); have GW228 := gs_ hg; have GE228 := gs_ hg; replace HB := Aside0.mk (below_step oB hb); clear hb hbox hg; obtain ⟨⟨_, _⟩, _, _⟩ := z2 BK228) | (go_at_call 92; (with_reducible refine (impl_NameOk.calls k1 ((rd_T85 l0 x7_1).f0) true _ A5.out).mono ?_); rintro e w' ⟨rfl, ⟨nd, rfl⟩⟩) | (go_at_call 90; (with_reducible refine (impl_from.calls (((rd_T85 l0 x7_1).f1).size : Int) 1 16 false _ A7.out).mono ?_); rintro e w' ⟨rfl, ⟨nd, rfl⟩⟩)))
        go_ret
        exact ⟨oE, oB⟩
      ·obtain rfl := Option.some.inj H
       have p227 : (0 ≤ (x7_1 : Int)) = True := oT
       have q227 : (x7_1 < (l0.length : Int)) = True := oT
       obtain ⟨ad227, e227, hx227_0, hx227_1⟩ := at_T85 HR0.out x7_1 oa oa
       cases e227
       replace hx227_0 := cB HB hx227_0
       replace hx227_1 := cB HB hx227_1
       go_wp2_with (first | ((with_reducible refine gate_dst (N := 4) rfl ?_); (try (refine gate_guard (by rfl) ?_; dsimp only)); refine bx_ 4 #[.string (⟨#[]⟩ : ByteArray), .string (⟨#[]⟩ : ByteArray)] 85 ?_; intro gb228 hg w22 hbox hb; have BK228 := Aside0.mk (hbox); have GW228 := gs_ hg; have GE228 := gs_ hg; replace HB := Aside0.mk (below_step oB hb); clear hb hbox hg; obtain ⟨⟨_, _⟩, _, _⟩ := z2 BK228) | (go_at_call 92; (with_reducible refine (impl_NameOk.calls k1 ((rd_T85 l0 x7_1).f0) false _ A5.out).mono ?_); rintro e w' ⟨rfl, ⟨nd, rfl⟩⟩))
       repeat (go_quiet (first | (go_at_call 92; (with_reducible refine (impl_NameOk.calls k1 ((rd_T85 l0 x7_1).f0) false _ A5.out).mono ?_); rintro e w' ⟨rfl, ⟨nd, rfl⟩⟩; exact oQ)); try go_wp2_with (first | ((with_reducible refine gate_dst (N := 4) rfl ?_); (try (refine gate_guard (by rfl) ?_; dsimp only)); refine bx_ 4 #[.string (⟨#[]⟩ : ByteArray), .string (⟨#[]⟩ : ByteArray)] 85 ?_; intro gb228 hg w22 hbox hb; have BK228 := Aside0.mk (hbox); have GW228 := gs_ hg; have GE228 := gs_ hg; replace HB := Aside0.mk (below_step oB hb); clear hb hbox hg; obtain ⟨⟨_, _⟩, _, _⟩ := z2 BK228) | (go_at_call 92; (with_reducible refine (impl_NameOk.calls k1 ((rd_T85 l0 x7_1).f0) false _ A5.out).mono ?_); rintro e w' ⟨rfl, ⟨nd, rfl⟩⟩)))
       go_ret
       exact ⟨oE, oB⟩
     ·cases H
    ·cases H
   ·obtain rfl := Option.some.inj H
    go_wp2
    repeat (go_quiet (fail); try go_wp2)
    go_ret
    exact ⟨oE, oB⟩

/-! ### impl_InodeOk: function 38 -/
mutual
def impl_InodeOk.j0 : Nat → Bool → Int → Int → Int → List Int → List (S83) → List (S85) → Option (Bool)
 | 0, _, _, _, _, _, _, _ => none
 | k + 1, x26, x233000, x233001, x233002, x233003, x233004, x233005 => if x26 = true then (some false) else (impl_InodeOk.l0 k x233004 (x233004.length : Int) 0 x233000 x233001 x233002 x233003 x233004 x233005)
def impl_InodeOk.l0 : Nat → List (S83) → Int → Int → Int → Int → Int → List Int → List (S83) → List (S85) → Option (Bool)
 | 0, _, _, _, _, _, _, _, _, _ => none
 | k + 1, x28, x29, x30, x233000, x233001, x233002, x233003, x233004, x233005 => if x30 < x29 then (if 0 ≤ x30 then (if x30 < (x28.length : Int) then ((impl_NameOk.f k ((rd_T83 x28 x30).f0)).bind fun t237 => (if t237 = true then ((impl_from.f ((rd_T83 x28 x30).f1) 2 1000).bind fun t238 => (if t238 = true then (if x30 > 0 then (if 0 ≤ (wrap64 (x30 - 1)) then (if (wrap64 (x30 - 1)) < (x233004.length : Int) then (if ((Op.bytesLess (((rd_T83 x233004 (wrap64 (x30 - 1))).f0).toList) (((rd_T83 x28 x30).f0).toList)) = true) then (impl_InodeOk.l0 k x28 x29 (wrap64 (x30 + 1)) x233000 x233001 x233002 x233003 x233004 x233005) else (some false)) else (none)) else (none)) else (impl_InodeOk.l0 k x28 x29 (wrap64 (x30 + 1)) x233000 x233001 x233002 x233003 x233004 x233005)) else (some false))) else (some false))) else (none)) else (none)) else ((impl_from.f x233002 0 1000).bind fun t240 => (if t240 = true then (impl_InodeOk.j2 k ((x233002 == 0) != (x233000 == 1)) x233000 x233001 x233002 x233003 x233004 x233005) else (impl_InodeOk.j2 k true x233000 x233001 x233002 x233003 x233004 x233005)))
def impl_InodeOk.j2 : Nat → Bool → Int → Int → Int → List Int → List (S83) → List (S85) → Option (Bool)
 | 0, _, _, _, _, _, _, _ => none
 | k + 1, x74, x233000, x233001, x233002, x233003, x233004, x233005 => if x74 = true then (some false) else (if x233001 = 1 then (some ((x233004.length : Int) == 0)) else (if x233001 = 2 then (if (x233003.length : Int) = 0 then (some (decide (x233002 ≤ 1))) else (some false)) else (some false)))
end
def impl_InodeOk.f (k : Nat) (a0_0 : Int) (a0_1 : Int) (a0_2 : Int) (l0_3 : List Int) (l0_4 : List (S83)) (l0_5 : List (S85)) : Option (Bool) := (impl_from.f a0_0 1 1000).bind fun t233 => (if t233 = true then (if (l0_3.length : Int) > 100 then (impl_InodeOk.j0 k true a0_0 a0_1 a0_2 l0_3 l0_4 l0_5) else (if (l0_4.length : Int) > 10 then (impl_InodeOk.j0 k true a0_0 a0_1 a0_2 l0_3 l0_4 l0_5) else ((impl_attrsOk.f k l0_5).bind fun t234 => (impl_InodeOk.j0 k (!t234) a0_0 a0_1 a0_2 l0_3 l0_4 l0_5)))) else (impl_InodeOk.j0 k true a0_0 a0_1 a0_2 l0_3 l0_4 l0_5))
set_option maxHeartbeats 8000000 in
set_option maxRecDepth 100000 in
theorem impl_InodeOk.calls (k : Nat) (a0_0 : Int) (a0_1 : Int) (a0_2 : Int) (A0_3 : Option Addr) (c0_3 : Nat) (l0_3 : List Int) (A0_4 : Option Addr) (c0_4 : Nat) (l0_4 : List (S83)) (A0_5 : Option Addr) (c0_5 : Nat) (l0_5 : List (S85)) (r : Bool) (w : World) (hr0_3 : Kd.C (Kd.int .u8) w A0_3 l0_3.length l0_3) (hc0_3 : l0_3.length ≤ c0_3) (hr0_4 : Kd.C k83 w A0_4 l0_4.length l0_4) (hc0_4 : l0_4.length ≤ c0_4) (hr0_5 : Kd.C k85 w A0_5 l0_5.length l0_5) (hc0_5 : l0_5.length ≤ c0_5) (h : impl_InodeOk.f k a0_0 a0_1 a0_2 l0_3 l0_4 l0_5 = some r) :
  Calls Try.prog 38 #[.agg #[.int .i64 a0_0, .int .i64 a0_1, .int .i64 a0_2, .slice A0_3 l0_3.length c0_3, .slice A0_4 l0_4.length c0_4, .slice A0_5 l0_5.length c0_5]] w fun e w' => e = .returned (.bool r) ∧ Below w.heap.size w w' := by
 have hu45 := Try.underlying45
 have hu83 := Try.underlying83
 have HR0_3 := Aside0.mk hr0_3
 have HC0_3 := Aside0.mk hc0_3
 clear hr0_3 hc0_3
 have HR0_4 := Aside0.mk hr0_4
 have HC0_4 := Aside0.mk hc0_4
 clear hr0_4 hc0_4
 have HR0_5 := Aside0.mk hr0_5
 have HC0_5 := Aside0.mk hc0_5
 clear hr0_5 hc0_5
 have HB := Aside0.mk (Below.refl w.heap.size w)
 unfold impl_InodeOk.f at h
 have H := h
 clear h
 have HC2 := Aside0.mk H
 clear H
 go_enter Try.func38, Try.ntmps38
 go_upto_region 1 with (first | ((with_reducible refine gate_dst (N := 1) rfl ?_); (try (refine gate_guard (by rfl) ?_; dsimp only)); refine bx_ 1 #[.int .i64 a0_0, .int .i64 a0_1, .int .i64 a0_2, .slice A0_3 l0_3.length c0_3, .slice A0_4 l0_4.length c0_4, .slice A0_5 l0_5.length c0_5] 45 ?_; intro gb232 hg w3 hbox hb; have BK232 := Aside0.mk (hbox); have GW232 := gs_ hg; have GE232 := gs_ hg; replace HB := Aside0.mk (below_step oB hb); clear hb hbox hg))
 repeat (go_quiet (fail); go_upto_region 1 with (first | ((with_reducible refine gate_dst (N := 1) rfl ?_); (try (refine gate_guard (by rfl) ?_; dsimp only)); refine bx_ 1 #[.int .i64 a0_0, .int .i64 a0_1, .int .i64 a0_2, .slice A0_3 l0_3.length c0_3, .slice A0_4 l0_4.length c0_4, .slice A0_5 l0_5.length c0_5] 45 ?_; intro gb232 hg w3 hbox hb; have BK232 := Aside0.mk (hbox); have GW232 := gs_ hg; have GE232 := gs_ hg; replace HB := Aside0.mk (below_step oB hb); clear hb hbox hg)))
 (try simp only [Act.put, List.setIfInBounds_toArray, List.set_cons_zero, List.set_cons_succ])
 go_cut [26] (fun v26 wc => ∃ (kq : Nat) (x26_1 : Bool), v26 = .bool x26_1 ∧ Aside0 (impl_InodeOk.j0 kq x26_1 a0_0 a0_1 a0_2 l0_3 l0_4 l0_5 = some r) ∧ Aside0 (kq ≤ k) ∧ Aside0 (wc.heap[gb232]? = some (.cells #[.int .i64 a0_0, .int .i64 a0_1, .int .i64 a0_2, (.slice A0_3 l0_3.length c0_3), (.slice A0_4 l0_4.length c0_4), (.slice A0_5 l0_5.length c0_5)] 45 (0, 0))) ∧ Aside0 (Below w.heap.size w wc))
 case first =>
  have H := HC2.out
  clear HC2
  replace H := bA H
  obtain ⟨t233, A4, H⟩ := H
  try dsimp only at H
  replace H := itB H
  rcases H with ⟨rfl, H⟩ | ⟨rfl, H⟩
  ·by_cases c6 : (l0_3.length : Int) > 100
   ·rw [if_pos c6] at H
    have c6b0 : decide (100 < (l0_3.length : Int)) = true := decide_eq_true c6
    have c6b1 : decide (100 < l0_3.length) = true := decide_eq_true (by omega)
    clear c6
    (first | rw [c6b0] | rw [c6b2] | (simp only [i64_w, i32_w]; rw [c6b0]) | skip)
    have H' := Aside0.mk H
    clear H
    obtain ⟨⟨_, _, _, _, _, _⟩, _, _, _, _, _, _⟩ := z6 BK232
    go_wp2_with (first | (go_at_call 90; (with_reducible refine (impl_from.calls a0_0 1 1000 true _ A4.out).mono ?_); rintro e w' ⟨rfl, ⟨nd, rfl⟩⟩))
    repeat (go_quiet (first | (go_at_call 90; (with_reducible refine (impl_from.calls a0_0 1 1000 true _ A4.out).mono ?_); rintro e w' ⟨rfl, ⟨nd, rfl⟩⟩; exact oQ)); try go_wp2_with (first | (go_at_call 90; (with_reducible refine (impl_from.calls a0_0 1 1000 true _ A4.out).mono ?_); rintro e w' ⟨rfl, ⟨nd, rfl⟩⟩)))
    go_meet
    case rel => exact ⟨_, (true), oS, H', ⟨by first | omega | exact Nat.le_refl _⟩, ⟨oF BK232⟩, ⟨oB⟩⟩
   ·rw [if_neg c6] at H
    have c6b0 : decide (100 < (l0_3.length : Int)) = false := decide_eq_false c6
    have c6b1 : decide (100 < l0_3.length) = false := decide_eq_false (by omega)
    clear c6
    (first | rw [c6b0] | rw [c6b2] | (simp only [i64_w, i32_w]; rw [c6b0]) | skip)
    by_cases c8 : (l0_4.length : Int) > 10
    ·rw [if_pos c8] at H
     have c8b0 : decide (10 < (l0_4.length : Int)) = true := decide_eq_true c8
     have c8b1 : decide (10 < l0_4.length) = true := decide_eq_true (by omega)
     clear c8
     have H' := Aside0.mk H
     clear H
     obtain ⟨⟨_, _, _, _, _, _⟩, _, _, _, _, _, _⟩ := z6 BK232
     go_wp2_with (first | (go_at_call 90; (with_reducible refine (impl_from.calls a0_0 1 1000 true _ A4.out).mono ?_); rintro e w' ⟨rfl, ⟨nd, rfl⟩⟩))
     repeat (go_quiet (first | (go_at_call 90; (with_reducible refine (impl_from.calls a0_0 1 1000 true _ A4.out).mono ?_); rintro e w' ⟨rfl, ⟨nd, rfl⟩⟩; exact oQ)); try go_wp2_with (first | (go_at_call 90; (with_reducible refine (impl_from.calls a0_0 1 1000 true _ A4.out).mono ?_); rintro e w' ⟨rfl, ⟨nd, rfl⟩⟩)))
     go_meet
     case rel => exact ⟨_, (true), oS, H', ⟨by first | omega | exact Nat.le_refl _⟩, ⟨oF BK232⟩, ⟨oB⟩⟩
    ·rw [if_neg c8] at H
     have c8b0 : decide (10 < (l0_4.length : Int)) = false := decide_eq_false c8
     have c8b1 : decide (10 < l0_4.length) = false := decide_eq_false (by omega)
     clear c8
     replace H := bA H
     obtain ⟨t234, A10, H⟩ := H
     try dsimp only at H
     have H' := Aside0.mk H
     clear H
     obtain ⟨⟨_, _, _, _, _, _⟩, _, _, _, _, _, _⟩ := z6 BK232
     go_wp2_with (first | (go_at_call 90; (with_reducible refine (impl_from.calls a0_0 1 1000 true _ A4.out).mono ?_); rintro e w' ⟨rfl, ⟨nd, rfl⟩⟩) | (go_at_call 91; (with_reducible refine (impl_attrsOk.calls k _ _ l0_5 t234 _ (kC HR0_5) HC0_5.out A10.out).mono ?_); rintro e w12 ⟨rfl, hb⟩; replace BK232 := kb_ BK232 hb; replace HB := Aside0.mk (below_step oB hb)))
     repeat (go_quiet (first | (go_at_call 90; (with_reducible refine (impl_from.calls a0_0 1 1000 true _ A4.out).mono ?_); rintro e w' ⟨rfl, ⟨nd, rfl⟩⟩; exact oQ) | (go_at_call 91; (with_reducible refine (impl_attrsOk.calls k _ _ l0_5 t234 _ (kC HR0_5) HC0_5.out A10.out).mono ?_); rintro e w12 ⟨rfl, hb⟩; replace BK232 := kb_ BK232 hb; replace HB := Aside0.mk (below_step oB hb))); try go_wp2_with (first | (go_at_call 90; (with_reducible refine (impl_from.calls a0_0 1 1000 true _ A4.out).mono ?_); rintro e w' ⟨rfl, ⟨nd, rfl⟩⟩) | (go_at_call 91; (with_reducible refine (impl_attrsOk.calls k _ _ l0_5 t234 _ (kC HR0_5) HC0_5.out A10.out).mono ?_); rintro e w12 ⟨rfl, hb⟩; replace BK232 := kb_ BK232 hb; replace HB := Aside0.mk (below_step oB hb))))
     go_meet
     case rel => exact ⟨_, (!t234), oS, H', ⟨by first | omega | exact Nat.le_refl _⟩, ⟨oF BK232⟩, ⟨oB⟩⟩
  ·have H' := Aside0.mk H
   clear H
   obtain ⟨⟨_, _, _, _, _, _⟩, _, _, _, _, _, _⟩ := z6 BK232
   go_wp2_with (first | (go_at_call 90; (with_reducible refine (impl_from.calls a0_0 1 1000 false _ A4.out).mono ?_); rintro e w' ⟨rfl, ⟨nd, rfl⟩⟩))
   repeat (go_quiet (first | (go_at_call 90; (with_reducible refine (impl_from.calls a0_0 1 1000 false _ A4.out).mono ?_); rintro e w' ⟨rfl, ⟨nd, rfl⟩⟩; exact oQ)); try go_wp2_with (first | (go_at_call 90; (with_reducible refine (impl_from.calls a0_0 1 1000 false _ A4.out).mono ?_); rintro e w' ⟨rfl, ⟨nd, rfl⟩⟩)))
   go_meet
   case rel => exact ⟨_, (true), oS, H', ⟨by first | omega | exact Nat.le_refl _⟩, ⟨oF BK232⟩, ⟨oB⟩⟩
 case rest =>
  clear HC2
  obtain ⟨kq, x26_1, rfl, HA, HJ1, BK232, HB⟩ := hcut
  cases kq with
  | zero => exact absurd HA.out (by simp [impl_InodeOk.j0])
  | succ kj1 =>
   have H := HA.out
   clear HA
   simp only [impl_InodeOk.j0] at H
   replace H := itB H
   rcases H with ⟨rfl, H⟩ | ⟨rfl, H⟩
   ·obtain rfl := Option.some.inj H
    go_wp2
    repeat (go_quiet (fail); try go_wp2)
    go_ret
    exact ⟨oE, oB⟩
   ·have H' := Aside0.mk H
    clear H
    obtain ⟨⟨_, _, _, _, _, _⟩, _, _, _, _, _, _⟩ := z6 BK232
    go_wp2
    repeat (go_quiet (fail); try go_wp2)
    go_loopg [30] kj1 (fun kq v30 w' => ∃ (x30_2 : Int), v30 = .int .i64 x30_2 ∧ Aside0 (impl_InodeOk.l0 kq l0_4 (l0_4.length : Int) x30_2 a0_0 a0_1 a0_2 l0_3 l0_4 l0_5 = some r) ∧ Aside0 (kq ≤ kj1) ∧ Aside0 (w'.heap[gb232]? = some (.cells #[.int .i64 a0_0, .int .i64 a0_1, .int .i64 a0_2, (.slice A0_3 l0_3.length c0_3), (.slice A0_4 l0_4.length c0_4), (.slice A0_5 l0_5.length c0_5)] 45 (0, 0))) ∧ Aside0 (Below w.heap.size w w'))
    case atStart => exact ⟨(0), oS, H', ⟨Nat.le_refl _⟩, ⟨oF BK232⟩, ⟨oB⟩⟩
    case round =>
     clear H'
     obtain ⟨x30_2, rfl, HA, HK2, BK232, HB⟩ := hrel
     cases gk with
     | zero => exact absurd HA.out (by simp [impl_InodeOk.l0])
     | succ k2 =>
      have H := HA.out
      clear HA
      simp only [impl_InodeOk.l0] at H
      replace H := itD H
      rcases H with ⟨c16b0, H⟩ | ⟨c16b0, H⟩
      ·replace H := itD H
       rcases H with ⟨c17b0, H⟩ | ⟨c17b0, H⟩
       ·replace H := itD H
        rcases H with ⟨c18b0, H⟩ | ⟨c18b0, H⟩
        ·replace H := bA H
         obtain ⟨t237, A19, H⟩ := H
         try dsimp only at H
         replace H := itB H
         rcases H with ⟨rfl, H⟩ | ⟨rfl, H⟩
         ·replace H := bA H
          obtain ⟨t238, A21, H⟩ := H
          try dsimp only at H
          replace H := itB H
          rcases H with ⟨rfl, H⟩ | ⟨rfl, H⟩
          ·replace H := itG H
           rcases H with ⟨c23b0, H⟩ | ⟨c23b0, H⟩
           ·obtain ⟨ji24, hji24⟩ : ∃ j_ : Int, (wrap64 (x30_2 - 1)) = j_ := ⟨_, rfl⟩
            replace H : (if 0 ≤ (ji24) then (if (ji24) < (l0_4.length : Int) then (if ((Op.bytesLess (((rd_T83 l0_4 (ji24)).f0).toList) (((rd_T83 l0_4 x30_2).f0).toList)) = true) then (impl_InodeOk.l0 k2 l0_4 (l0_4.length : Int) (wrap64 (x30_2 + 1)) a0_0 a0_1 a0_2 l0_3 l0_4 l0_5) else (some false)) else (none)) else (none)) = some r := by first | (rw [hji24] at H; exact H) | (simp only [hji24] at H ⊢; exact H)
            (try rw [hji24] at A19)
            (try rw [hji24] at A21)
            have hji24w : (IntKind.i64.wrap (x30_2 - 1)) = ji24 := (i64_w _).trans hji24
            replace H := itD H
            rcases H with ⟨c25b0, H⟩ | ⟨c25b0, H⟩
            ·replace H := itD H
             rcases H with ⟨c26b0, H⟩ | ⟨c26b0, H⟩
             ·by_cases c27 : ((Op.bytesLess (((rd_T83 l0_4 (ji24)).f0).toList) (((rd_T83 l0_4 x30_2).f0).toList)) = true)
              ·rw [if_pos c27] at H
               have c27b0 : (Op.bytesLess (((rd_T83 l0_4 (ji24)).f0).toList) (((rd_T83 l0_4 x30_2).f0).toList)) = true := c27
               clear c27
               have H' := Aside0.mk H
               clear H
               have p235 : (0 ≤ (x30_2 : Int)) = True := oT
               have q235 : (x30_2 < (l0_4.length : Int)) = True := oT
               obtain ⟨ad235, e235, hx235_0, hx235_1⟩ := at_T83 HR0_4.out x30_2 oa oa
               cases e235
               replace hx235_0 := cB HB hx235_0
               replace hx235_1 := cB HB hx235_1
               go_wp2_with (first | ((with_reducible refine gate_dst (N := 4) rfl ?_); (try (refine gate_guard (by rfl) ?_; dsimp only)); refine bx_ 4 #[.string (⟨#[]⟩ : ByteArray), .int .i64 0] 83 ?_; intro gb236 hg w28 hbox hb; have BK236 := Aside0.mk (hbox); have GW236 := gs_ hg; have GE236 := gs_ hg; have NB232_236 := nl_ hg BK232; have NB236_232 := nr_ hg BK232; replace BK232 := kb_ BK232 hb; replace HB := Aside0.mk (below_step oB hb); clear hb hbox hg; have hnb29 := NB236_232.out; have hnc29 := NB232_236.out; obtain ⟨⟨_, _⟩, _, _⟩ := z2 BK236) | (go_at_call 92; (with_reducible refine (impl_NameOk.calls k2 ((rd_T83 l0_4 x30_2).f0) true _ A19.out).mono ?_); rintro e w' ⟨rfl, ⟨nd, rfl⟩⟩) | (go_at_call 90; (with_reducible refine (impl_from.calls ((rd_T83 l0_4 x30_2).f1) 2 1000 true _ A21.out).mono ?_); rintro e w' ⟨rfl, ⟨nd, rfl⟩⟩; obtain ⟨⟨_, _, _, _, _, _⟩, _, _, _, _, _, _⟩ := z6 BK232; have p239 : (0 ≤ ((ji24) : Int)) = True := oT; have q239 : ((ji24) < (l0_4.length : Int)) = True := oT; obtain ⟨ad239, e239, hx239_0, hx239_1⟩ := at_T83 HR0_4.out (ji24) oa oa; obtain rfl : ad235 = ad239 := (by injection e239); have hn239_0 : ad235.block ≠ gb236 := Nat.ne_of_lt (Nat.lt_of_lt_of_le (by have := World.block_lt_of_cell? _ _ hx239_0; first | rwa [add_block] at this | exact this) GW236.out); have hn239_1 : ad235.block ≠ gb236 := Nat.ne_of_lt (Nat.lt_of_lt_of_le (by have := World.block_lt_of_cell? _ _ hx239_0; first | rwa [add_block] at this | exact this) GW236.out); replace hx239_0 := cB HB hx239_0; replace hx239_1 := cB HB hx239_1; replace hx239_0 := (cell_far (p := ⟨gb236, 0, none⟩) (by first | (rw [add_block]; exact hn239_0) | (show (Addr.add _ _).block ≠ _; rw [add_block]; exact hn239_0) | exact hn239_0) (.string ((rd_T83 l0_4 x30_2).f0))).trans hx239_0; replace hx239_1 := (cell_far (p := ⟨gb236, 0, none⟩) (by first | (rw [add_block]; exact hn239_0) | (show (Addr.add _ _).block ≠ _; rw [add_block]; exact hn239_0) | exact hn239_0) (.string ((rd_T83 l0_4 x30_2).f0))).trans hx239_1; replace hx239_0 := (cell_far (p := ⟨gb236, 1, none⟩) (by first | (rw [add_block]; exact hn239_1) | (show (Addr.add _ _).block ≠ _; rw [add_block]; exact hn239_1) | exact hn239_1) (.int .i64 ((rd_T83 l0_4 x30_2).f1))).trans hx239_0; replace hx239_1 := (cell_far (p := ⟨gb236, 1, none⟩) (by first | (rw [add_block]; exact hn239_1) | (show (Addr.add _ _).block ≠ _; rw [add_block]; exact hn239_1) | exact hn239_1) (.int .i64 ((rd_T83 l0_4 x30_2).f1))).trans hx239_1; (try have hy239_0 := fun (n_ : Nat) => (show ((((w28.drewN n_).setCell ⟨gb236, 0, none⟩ (.string ((rd_T83 l0_4 x30_2).f0))).setCell ⟨gb236, 1, none⟩ (.int .i64 ((rd_T83 l0_4 x30_2).f1)))).cell? _ = some _ from hx239_0)); (try have hy239_1 := fun (n_ : Nat) => (show ((((w28.drewN n_).setCell ⟨gb236, 0, none⟩ (.string ((rd_T83 l0_4 x30_2).f0))).setCell ⟨gb236, 1, none⟩ (.int .i64 ((rd_T83 l0_4 x30_2).f1)))).cell? _ = some _ from hx239_1)); clear hn239_0; clear hn239_1))
               repeat (go_quiet (first | (go_at_call 92; (with_reducible refine (impl_NameOk.calls k2 ((rd_T83 l0_4 x30_2).f0) true _ A19.out).mono ?_); rintro e w' ⟨rfl, ⟨nd, rfl⟩⟩; exact oQ) | (go_at_call 90; (with_reducible refine (impl_from.calls ((rd_T83 l0_4 x30_2).f1) 2 1000 true _ A21.out).mono ?_); rintro e w' ⟨rfl, ⟨nd, rfl⟩⟩; exact oQ; obtain ⟨⟨_, _, _, _, _, _⟩, _, _, _, _, _, _⟩ := z6 BK232; have p239 : (0 ≤ ((ji24) : Int)) = True := oT; have q239 : ((ji24) < (l0_4.length : Int)) = True := oT; obtain ⟨ad239, e239, hx239_0, hx239_1⟩ := at_T83 HR0_4.out (ji24) oa oa; obtain rfl : ad235 = ad239 := (by injection e239); have hn239_0 : ad235.block ≠ gb236 := Nat.ne_of_lt (Nat.lt_of_lt_of_le (by have := World.block_lt_of_cell? _ _ hx239_0; first | rwa [add_block] at this | exact this) GW236.out); have hn239_1 : ad235.block ≠ gb236 := Nat.ne_of_lt (Nat.lt_of_lt_of_le (by have := World.block_lt_of_cell? _ _ hx239_0; first | rwa [add_block] at this | exact this) GW236.out); replace hx239_0 := cB HB hx239_0; replace hx239_1 := cB HB hx239_1; replace hx239_0 := (cell_far (p := ⟨gb236, 0, none⟩) (by first | (rw [add_block]; exact hn239_0) | (show (Addr.add _ _).block ≠ _; rw [add_block]; exact hn239_0) | exact hn239_0) (.string ((rd_T83 l0_4 x30_2).f0))).trans hx239_0; replace hx239_1 := (cell_far (p := ⟨gb236, 0, none⟩) (by first | (rw [add_block]; exact hn239_0) | (show (Addr.add _ _).block ≠ _; rw [add_block]; exact hn239_0) | exact hn239_0) (.string ((rd_T83 l0_4 x30_2).f0))).trans hx239_1; replace hx239_0 := (cell_far (p := ⟨gb236, 1, none⟩) (by first | (rw [add_block]; exact hn239_1) | (show (Addr.add _ _).block ≠ _; rw [add_block]; exact hn239_1) | exact hn239_1) (.int .i64 ((rd_T83 l0_4 x30_2).f1))).trans hx239_0; replace hx239_1 := (cell_far (p := ⟨gb236, 1, none⟩) (by first | (rw [add_block]; exact hn239_1) | (show (Addr.add _ _).block ≠ _; rw [add_block]; exact hn239_1) | exact hn239_1) (.int .i64 ((rd_T83 l0_4 x30_2).f1))).trans hx239_1; (try have hy239_0 := fun (n_ : Nat) => (show ((((w28.drewN n_).setCell ⟨gb236, 0, none⟩ (.string ((rd_T83 l0_4 x30_2).f0))).setCell ⟨gb236, 1, none⟩ (.int .i64 ((rd_T83 l0_4 x30_2).f1)))).cell? _ = some _ from hx239_0)); (try have hy239_1 := fun (n_ : Nat) => (show ((((w28.drewN n_).setCell ⟨gb236, 0, none⟩ (.string ((rd_T83 l0_4 x30_2).f0))).setCell ⟨gb236, 1, none⟩ (.int .i64 ((rd_T83 l0_4 x30_2).f1)))).cell? _ = some _ from hx239_1)); clear hn239_0; clear hn239_1)); try go_wp2_with (first | ((with_reducible refine gate_dst (N := 4) rfl ?_); (try (refine gate_guard (by rfl) ?_; dsimp only)); refine bx_ 4 #[.string (⟨#[]⟩ : ByteArray), .int .i64 0] 83 ?_; intro gb236 hg w28 hbox hb; have BK236 := Aside0.mk (hbox); have GW236 := gs_ hg; have GE236 := gs_ hg; have NB232_236 := nl_ hg BK232; have NB236_232 := nr_ hg BK232; replace BK232 := kb_ BK232 hb; replace HB := Aside0.mk (below_step oB hb); clear hb hbox hg; have hnb29 := NB236_232.out; have hnc29 := NB232_236.out; obtain ⟨⟨_, _⟩, _, _⟩ := z2 BK236) | (go_at_call 92; (with_reducible refine (impl_NameOk.calls k2 ((rd_T83 l0_4 x30_2).f0) true _ A19.out).mono ?_); rintro e w' ⟨rfl, ⟨nd, rfl⟩⟩) | (go_at_call 90; (with_reducible refine (impl_from.calls ((rd_T83 l0_4 x30_2).f1) 2 1000 true _ A21.out).mono ?_); rintro e w' ⟨rfl, ⟨nd, rfl⟩⟩; obtain ⟨⟨_, _, _, _, _, _⟩, _, _, _, _, _, _⟩ := z6 BK232; have p239 : (0 ≤ ((ji24) : Int)) = True := oT; have q239 : ((ji24) < (l0_4.length : Int)) = True := oT; obtain ⟨ad239, e239, hx239_0, hx239_1⟩ := at_T83 HR0_4.out (ji24) oa oa; obtain rfl : ad235 = ad239 := (by injection e239); have hn239_0 : ad235.block ≠ gb236 := Nat.ne_of_lt (Nat.lt_of_lt_of_le (by have := World.block_lt_of_cell? _ _ hx239_0; first | rwa [add_block] at this | exact this) GW236.out); have hn239_1 : ad235.block ≠ gb236 := Nat.ne_of_lt (Nat.lt_of_lt_of_le (by have := World.block_lt_of_cell? _ _ hx239_0; first | rwa [add_block] at this | exact this) GW236.out); replace hx239_0 := cB HB hx239_0; replace hx239_1 := cB HB hx239_1; replace hx239_0 := (cell_far (p := ⟨gb236, 0, none⟩) (by first | (rw [add_block]; exact hn239_0) | (show (Addr.add _ _).block ≠ _; rw [add_block]; exact hn239_0) | exact hn239_0) (.string ((rd_T83 l0_4 x30_2).f0))).trans hx239_0; replace hx239_1 := (cell_far (p := ⟨gb236, 0, none⟩) (by first | (rw [add_block]; exact hn239_0) | (show (Addr.add _ _).block ≠ _; rw [add_block]; exact hn239_0) | exact hn239_0) (.string ((rd_T83 l0_4 x30_2).f0))).trans hx239_1; replace hx239_0 := (cell_far (p := ⟨gb236, 1, none⟩) (by first | (rw [add_block]; exact hn239_1) | (show (Addr.add _ _).block ≠ _; rw [add_block]; exact hn239_1) | exact hn239_1) (.int .i64 ((rd_T83 l0_4 x30_2).f1))).trans hx239_0; replace hx239_1 := (cell_far (p := ⟨gb236, 1, none⟩) (by first | (rw [add_block]; exact hn239_1) | (show (Addr.add _ _).block ≠ _; rw [add_block]; exact hn239_1) | exact hn239_1) (.int .i64 ((rd_T83 l0_4 x30_2).f1))).trans hx239_1; (try have hy239_0 := fun (n_ : Nat) => (show ((((w28.drewN n_).setCell ⟨gb236, 0, none⟩ (.string ((rd_T83 l0_4 x30_2).f0))).setCell ⟨gb236, 1, none⟩ (.int .i64 ((rd_T83 l0_4 x30_2).f1)))).cell? _ = some _ from hx239_0)); (try have hy239_1 := fun (n_ : Nat) => (show ((((w28.drewN n_).setCell ⟨gb236, 0, none⟩ (.string ((rd_T83 l0_4 x30_2).f0))).setCell ⟨gb236, 1, none⟩ (.int .i64 ((rd_T83 l0_4 x30_2).f1)))).cell? _ = some _ from hx239_1)); clear hn239_0; clear hn239_1)))
               go_roundg k2
               case measure => have := HJ1.out; have := HK2.out; omega
               case rel => exact ⟨(wrap64 (x30_2 + 1)), oS, H', ⟨by have := HJ1.out; have := HK2.out; omega⟩, ⟨by (with_reducible repeat (first | refine blk_drewN ?_ _ | refine blk_drew ?_ | refine blk_alloc ?_ _)); refine blk_far ?_ NB232_236.out _; (with_reducible repeat (first | refine blk_drewN ?_ _ | refine blk_drew ?_ | refine blk_alloc ?_ _)); refine blk_far ?_ NB232_236.out _; (with_reducible repeat (first | refine blk_drewN ?_ _ | refine blk_drew ?_ | refine blk_alloc ?_ _)); exact BK232.out⟩, ⟨oB⟩⟩
              ·rw [if_neg c27] at H
               have c27b0 : (Op.bytesLess (((rd_T83 l0_4 (ji24)).f0).toList) (((rd_T83 l0_4 x30_2).f0).toList)) = false := by simpa using c27
               clear c27
               obtain rfl := Option.some.inj H
               have p235 : (0 ≤ (x30_2 : Int)) = True := oT
               have q235 : (x30_2 < (l0_4.length : Int)) = True := oT
               obtain ⟨ad235, e235, hx235_0, hx235_1⟩ := at_T83 HR0_4.out x30_2 oa oa
               cases e235
               replace hx235_0 := cB HB hx235_0
               replace hx235_1 := cB HB hx235_1
               go_wp2_with (first | ((with_reducible refine gate_dst (N := 4) rfl ?_); (try (refine gate_guard (by rfl) ?_; dsimp only)); refine bx_ 4 #[.string (⟨#[]⟩ : ByteArray), .int .i64 0] 83 ?_; intro gb236 hg w32 hbox hb; have BK236 := Aside0.mk (hbox); have GW236 := gs_ hg; have GE236 := gs_ hg; have NB232_236 := nl_ hg BK232; have NB236_232 := nr_ hg BK232; replace BK232 := kb_ BK232 hb; replace HB := Aside0.mk (below_step oB hb); clear hb hbox hg; have hnb33 := NB236_232.out; have hnc33 := NB232_236.out; obtain ⟨⟨_, _⟩, _, _⟩ := z2 BK236) | (go_at_call 92; (with_reducible refine (impl_NameOk.calls k2 ((rd_T83 l0_4 x30_2).f0) true _ A19.out).mono ?_); rintro e w' ⟨rfl, ⟨nd, rfl⟩⟩) | (go_at_call 90; (with_reducible refine (impl_from.calls ((rd_T83 l0_4 x30_2).f1) 2 1000 true _ A21.out).mono ?_); rintro e w' ⟨rfl, ⟨nd, rfl⟩⟩; obtain ⟨⟨_, _, _, _, _, _⟩, _, _, _, _, _, _⟩ := z6 BK232; have p239 : (0 ≤ ((ji24) : Int)) = True := oT; have q239 : ((ji24) < (l0_4.length : Int)) = True := oT; obtain ⟨ad239, e239, hx239_0, hx239_1⟩ := at_T83 HR0_4.out (ji24) oa oa; obtain rfl : ad235 = ad239 := (by injection e239); have hn239_0 : ad235.block ≠ gb236 := Nat.ne_of_lt (Nat.lt_of_lt_of_le (by have := World.block_lt_of_cell? _ _ hx239_0; first | rwa [add_block] at this | exact this) GW236.out); have hn239_1 : ad235.block ≠ gb236 := Nat.ne_of_lt (Nat.lt_of_lt_of_le (by have := World.block_lt_of_cell? _ _ hx239_0; first | rwa [add_block] at this | exact this) GW236.out); replace hx239_0 := cB HB hx239_0; replace hx239_1 := cB HB hx239_1; replace hx239_0 := (cell_far (p := ⟨gb236, 0, none⟩) (by first | (rw [add_block]; exact hn239_0) | (show (Addr.add _ _).block ≠ _; rw [add_block]; exact hn239_0) | exact hn239_0) (.string ((rd_T83 l0_4 x30_2).f0))).trans hx239_0; replace hx239_1 := (cell_far (p := ⟨gb236, 0, none⟩) (by first | (rw [add_block]; exact hn239_0) | (show (Addr.add _ _).block ≠ _; rw [add_block]; exact hn239_0) | exact hn239_0) (.string ((rd_T83 l0_4 x30_2).f0))).trans hx239_1; replace hx239_0 := (cell_far (p := ⟨gb236, 1, none⟩) (by first | (rw [add_block]; exact hn239_1) | (show (Addr.add _ _).block ≠ _; rw [add_block]; exact hn239_1) | exact hn239_1) (.int .i64 ((rd_T83 l0_4 x30_2).f1))).trans hx239_0; replace hx239_1 := (cell_far (p := ⟨gb236, 1, none⟩) (by first | (rw [add_block]; exact hn239_1) | (show (Addr.add _ _).block ≠ _; rw [add_block]; exact hn239_1) | exact hn239_1) (.int .i64 ((rd_T83 l0_4 x30_2).f1))).trans hx239_1; (try have hy239_0 := fun (n_ : Nat) => (show ((((w32.drewN n_).setCell ⟨gb236, 0, none⟩ (.string ((rd_T83 l0_4 x30_2).f0))).setCell ⟨gb236, 1, none⟩ (.int .i64 ((rd_T83 l0_4 x30_2).f1)))).cell? _ = some _ from hx239_0)); (try have hy239_1 := fun (n_ : Nat) => (show ((((w32.drewN n_).setCell ⟨gb236, 0, none⟩ (.string ((rd_T83 l0_4 x30_2).f0))).setCell ⟨gb236, 1, none⟩ (.int .i64 ((rd_T83 l0_4 x30_2).f1)))).cell? _ = some _ from hx239_1)); clear hn239_0; clear hn239_1))
               repeat (go_quiet (first | (go_at_call 92; (with_reducible refine (impl_NameOk.calls k2 ((rd_T83 l0_4 x30_2).f0) true _ A19.out).mono ?_); rintro e w' ⟨rfl, ⟨nd, rfl⟩⟩; exact oQ) | (go_at_call 90; (with_reducible refine (impl_from.calls ((rd_T83 l0_4 x30_2).f1) 2 1000 true _ A21.out).mono ?_); rintro e w' ⟨rfl, ⟨nd, rfl⟩⟩; exact oQ; obtain ⟨⟨_, _, _, _, _, _⟩, _, _, _, _, _, _⟩ := z6 BK232; have p239 : (0 ≤ ((ji24) : Int)) = True := oT; have q239 : ((ji24) < (l0_4.length : Int)) = True := oT; obtain ⟨ad239, e239, hx239_0, hx239_1⟩ := at_T83 HR0_4.out (ji24) oa oa; obtain rfl : ad235 = ad239 := (by injection e239); have hn239_0 : ad235.block ≠ gb236 := Nat.ne_of_lt (Nat.lt_of_lt_of_le (by have := World.block_lt_of_cell? _ _ hx239_0; first | rwa [add_block] at this | exact this) GW236.out); have hn239_1 : ad235.block ≠ gb236 := Nat.ne_of_lt (Nat.lt_of_lt_of_le (by have := World.block_lt_of_cell? _ _ hx239_0; first | rwa [add_block] at this | exact this) GW236.out); replace hx239_0 := cB HB hx239_0; replace hx239_1 := cB HB hx239_1; replace hx239_0 := (cell_far (p := ⟨gb236, 0, none⟩) (by first | (rw [add_block]; exact hn239_0) | (show (Addr.add _ _).block ≠ _; rw [add_block]; exact hn239_0) | exact hn239_0) (.string ((rd_T83 l0_4 x30_2).f0))).trans hx239_0; replace hx239_1 := (cell_far (p := ⟨gb236, 0, none⟩) (by first | (rw [add_block]; exact hn239_0) | (show (Addr.add _ _).block ≠ _; rw [add_block]; exact hn239_0) | exact hn239_0) (.string ((rd_T83 l0_4 x30_2).f0))).trans hx239_1; replace hx239_0 := (cell_far (p := ⟨gb236, 1, none⟩) (by first | (rw [add_block]; exact hn239_1) | (show (Addr.add _ _).block ≠ _; rw [add_block]; exact hn239_1) | exact hn239_1) (.int .i64 ((rd_T83 l0_4 x30_2).f1))).trans hx239_0; replace hx239_1 := (cell_far (p := ⟨gb236, 1, none⟩) (by first | (rw [add_block]; exact hn239_1) | (show (Addr.add _ _).block ≠ _; rw [add_block]; exact hn239_1) | exact hn239_1) (.int .i64 ((rd_T83 l0_4 x30_2).f1))).trans hx239_1; (try have hy239_0 := fun (n_ : Nat) => (show ((((w32.drewN n_).setCell ⟨gb236, 0, none⟩ (.string ((rd_T83 l0_4 x30_2).f0))).setCell ⟨gb236, 1, none⟩ (.int .i64 ((rd_T83 l0_4 x30_2).f1)))).cell? _ = some _ from hx239_0)); (try have hy239_1 := fun (n_ : Nat) => (show ((((w32.drewN n_).setCell ⟨gb236, 0, none⟩ (.string ((rd_T83 l0_4 x30_2).f0))).setCell ⟨gb236, 1, none⟩ (.int .i64 ((rd_T83 l0_4 x30_2).f1)))).cell? _ = some _ from hx239_1)); clear hn239_0; clear hn239_1)); try go_wp2_with (first | ((with_reducible refine gate_dst (N := 4) rfl ?_); (try (refine gate_guard (by rfl) ?_; dsimp only)); refine bx_ 4 #[.string (⟨#[]⟩ : ByteArray), .int .i64 0] 83 ?_; intro gb236 hg w32 hbox hb; have BK236 := Aside0.mk (hbox); have GW236 := gs_ hg; have GE236 := gs_ hg; have NB232_236 := nl_ hg BK232; have NB236_232 := nr_ hg BK232; replace BK232 := kb_ BK232 hb; replace HB := Aside0.mk (below_step oB hb); clear hb hbox hg; have hnb33 := NB236_232.out; have hnc33 := NB232_236.out; obtain ⟨⟨_, _⟩, _, _⟩ := z2 BK236) | (go_at_call 92; (with_reducible refine (impl_NameOk.calls k2 ((rd_T83 l0_4 x30_2).f0) true _ A19.out).mono ?_); rintro e w' ⟨rfl, ⟨nd, rfl⟩⟩) | (go_at_call 90; (with_reducible refine (impl_from.calls ((rd_T83 l0_4 x30_2).f1) 2 1000 true _ A21.out).mono ?_); rintro e w' ⟨rfl, ⟨nd, rfl⟩⟩; obtain ⟨⟨_, _, _, _, _, _⟩, _, _, _, _, _, _⟩ := z6 BK232; have p239 : (0 ≤ ((ji24) : Int)) = True := oT; have q239 : ((ji24) < (l0_4.length : Int)) = True := oT; obtain ⟨ad239, e239, hx239_0, hx239_1⟩ := at_T83 HR0_4.out (ji24) oa oa; obtain rfl : ad235 = ad239 := (by injection e239); have hn239_0 : ad235.block ≠ gb236 := Nat.ne_of_lt (Nat.lt_of_lt_of_le (by have := World.block_lt_of_cell? _ _ hx239_0; first | rwa [add_block] at this | exact this) GW236.out); have hn239_1 : ad235.block ≠ gb236 := Nat.ne_of_lt (Nat.lt_of_lt_of_le (by have := World.block_lt_of_cell? _ _ hx239_0; first | rwa [add_block] at this | exact this) GW236.out); replace hx239_0 := cB HB hx239_0; replace hx239_1 := cB HB hx239_1; replace hx239_0 := (cell_far (p := ⟨gb236, 0, none⟩) (by first | (rw [add_block]; exact hn239_0) | (show (Addr.add _ _).block ≠ _; rw [add_block]; exact hn239_0) | exact hn239_0) (.string ((rd_T83 l0_4 x30_2).f0))).trans hx239_0; replace hx239_1 := (cell_far (p := ⟨gb236, 0, none⟩) (by first | (rw [add_block]; exact hn239_0) | (show (Addr.add _ _).block ≠ _; rw [add_block]; exact hn239_0) | exact hn239_0) (.string ((rd_T83 l0_4 x30_2).f0))).trans hx239_1; replace hx239_0 := (cell_far (p := ⟨gb236, 1, none⟩) (by first | (rw [add_block]; exact hn239_1) | (show (Addr.add _ _).block ≠ _; rw [add_block]; exact hn239_1) | exact hn239_1) (.int .i64 ((rd_T83 l0_4 x30_2).f1))).trans hx239_0; replace hx239_1 := (cell_far (p := ⟨gb236, 1, none⟩) (by first | (rw [add_block]; exact hn239_1) | (show (Addr.add _ _).block ≠ _; rw [add_block]; exact hn239_1) | exact hn239_1) (.int .i64 ((rd_T83 l0_4 x30_2).f1))).trans hx239_1; (try have hy239_0 := fun (n_ : Nat) => (show ((((w32.drewN n_).setCell ⟨gb236, 0, none⟩ (.string ((rd_T83 l0_4 x30_2).f0))).setCell ⟨gb236, 1, none⟩ (.int .i64 ((rd_T83 l0_4 x30_2).f1)))).cell? _ = some _ from hx239_0)); (try have hy239_1 := fun (n_ : Nat) => (show ((((w32.drewN n_).setCell ⟨gb236, 0, none⟩ (.string ((rd_T83 l0_4 x30_2).f0))).setCell ⟨gb236, 1, none⟩ (.int .i64 ((rd_T83 l0_4 x30_2).f1)))).cell? _ = some _ from hx239_1)); clear hn239_0; clear hn239_1)))
               go_ret
               exact ⟨by first | rfl | (simp [errW_none, errW_some] <;> rfl) | (simp only [← hji24]; first | rfl | (simp [errW_none, errW_some] <;> rfl)) | (simp [*, errW_none, errW_some] <;> rfl), oB⟩
             ·cases H
            ·cases H
           ·have H' := Aside0.mk H
            clear H
            have p235 : (0 ≤ (x30_2 : Int)) = True := oT
            have q235 : (x30_2 < (l0_4.length : Int)) = True := oT
            obtain ⟨ad235, e235, hx235_0, hx235_1⟩ := at_T83 HR0_4.out x30_2 oa oa
            cases e235
            replace hx235_0 := cB HB hx235_0
            replace hx235_1 := cB HB hx235_1
            go_wp2_with (first | ((with_reducible refine gate_dst (N := 4) rfl ?_); (try (refine gate_guard (by rfl) ?_; dsimp only)); refine bx_ 4 #[.string (⟨#[]⟩ : ByteArray), .int .i64 0] 83 ?_; intro gb236 hg w36 hbox hb; have BK236 := Aside0.mk (hbox); have GW236 := gs_ hg; have GE236 := gs_ hg; have NB232_236 := nl_ hg BK232; have NB236_232 := nr_ hg BK232; replace BK232 := kb_ BK232 hb; replace HB := Aside0.mk (below_step oB hb); clear hb hbox hg; have hnb37 := NB236_232.out; have hnc37 := NB232_236.out; obtain ⟨⟨_, _⟩, _, _⟩ := z2 BK236) | (go_at_call 92; (with_reducible refine (impl_NameOk.calls k2 ((rd_T83 l0_4 x30_2).f0) true _ A19.out).mono ?_); rintro e w' ⟨rfl, ⟨nd, rfl⟩⟩) | (go_at_call 90; (with_reducible refine (impl_from.calls ((rd_T83 l0_4 x30_2).f1) 2 1000 true _ A21.out).mono ?_); rintro e w' ⟨rfl, ⟨nd, rfl⟩⟩))
            repeat (go_quiet (first | (go_at_call 92; (with_reducible refine (impl_NameOk.calls k2 ((rd_T83 l0_4 x30_2).f0) true _ A19.out).mono ?_); rintro e w' ⟨rfl, ⟨nd, rfl⟩⟩; exact oQ) | (go_at_call 90; (with_reducible refine (impl_from.calls ((rd_T83 l0_4 x30_2).f1) 2 1000 true _ A21.out).mono ?_); rintro e w' ⟨rfl, ⟨nd, rfl⟩⟩; exact oQ)); try go_wp2_with (first | ((with_reducible refine gate_dst (N := 4) rfl ?_); (try (refine gate_guard (by rfl) ?_; dsimp only)); refine bx_ 4 #[.string (⟨#[]⟩ : ByteArray), .int .i64 0] 83 ?_; intro gb236 hg w36 hbox hb; have BK236 := Aside0.mk (hbox); have GW236 := gs_ hg; have GE236 := gs_ hg; have NB232_236 := nl_ hg BK232; have NB236_232 := nr_ hg BK232; replace BK232 := kb_ BK232 hb; replace HB := Aside0.mk (below_step oB hb); clear hb hbox hg; have hnb37 := NB236_232.out; have hnc37 := NB232_236.out; obtain ⟨⟨_, _⟩, _, _⟩ := z2 BK236) | (go_at_call 92; (with_reducible refine (impl_NameOk.calls k2 ((rd_T83 l0_4 x30_2).f0) true _ A19.out).mono ?_); rintro e w' ⟨rfl, ⟨nd, rfl⟩⟩) | (go_at_call 90; (with_reducible refine (impl_from.calls ((rd_T83 l0_4 x30_2).f1) 2 1000 true _ A21.out).mono ?_); rintro e w' ⟨rfl, ⟨nd, rfl⟩⟩)))
            go_roundg k2
            case measure => have := HJ1.out; have := HK2.out; omega
            case rel => exact ⟨(wrap64 (x30_2 + 1)), oS, H', ⟨by have := HJ1.out; have := HK2.out; omega⟩, ⟨by (with_reducible repeat (first | refine blk_drewN ?_ _ | refine blk_drew ?_ | refine blk_alloc ?_ _)); refine blk_far ?_ NB232_236.out _; (with_reducible repeat (first | refine blk_drewN ?_ _ | refine blk_drew ?_ | refine blk_alloc ?_ _)); refine blk_far ?_ NB232_236.out _; (with_reducible repeat (first | refine blk_drewN ?_ _ | refine blk_drew ?_ | refine blk_alloc ?_ _)); exact BK232.out⟩, ⟨oB⟩⟩
          ·obtain rfl := Option.some.inj H
           have p235 : (0 ≤ (x30_2 : Int)) = True := oT
           have q235 : (x30_2 < (l0_4.length : Int)) = True := oT
           obtain ⟨ad235, e235, hx235_0, hx235_1⟩ := at_T83 HR0_4.out x30_2 oa oa
           cases e235
           replace hx235_0 := cB HB hx235_0
           replace hx235_1 := cB HB hx235_1
           go_wp2_with (first | ((with_reducible refine gate_dst (N := 4) rfl ?_); (try (refine gate_guard (by rfl) ?_; dsimp only)); refine bx_ 4 #[.string (⟨#[]⟩ : ByteArray), .int .i64 0] 83 ?_; intro gb236 hg w39 hbox hb; have BK236 := Aside0.mk (hbox); have GW236 := gs_ hg; have GE236 := gs_ hg; have NB232_236 := nl_ hg BK232; have NB236_232 := nr_ hg BK232; replace BK232 := kb_ BK232 hb; replace HB := Aside0.mk (below_step oB hb); clear hb hbox hg; have hnb40 := NB236_232.out; have hnc40 := NB232_236.out; obtain ⟨⟨_, _⟩, _, _⟩ := z2 BK236) | (go_at_call 92; (with_reducible refine (impl_NameOk.calls k2 ((rd_T83 l0_4 x30_2).f0) true _ A19.out).mono ?_); rintro e w' ⟨rfl, ⟨nd, rfl⟩⟩) | (go_at_call 90; (with_reducible refine (impl_from.calls ((rd_T83 l0_4 x30_2).f1) 2 1000 false _ A21.out).mono ?_); rintro e w' ⟨rfl, ⟨nd, rfl⟩⟩))
           repeat (go_quiet (first | (go_at_call 92; (with_reducible refine (impl_NameOk.calls k2 ((rd_T83 l0_4 x30_2).f0) true _ A19.out).mono ?_); rintro e w' ⟨rfl, ⟨nd, rfl⟩⟩; exact oQ) | (go_at_call 90; (with_reducible refine (impl_from.calls ((rd_T83 l0_4 x30_2).f1) 2 1000 false _ A21.out).mono ?_); rintro e w' ⟨rfl, ⟨nd, rfl⟩⟩; exact oQ)); try go_wp2_with (first | ((with_reducible refine gate_dst (N := 4) rfl ?_); (try (refine gate_guard (by rfl) ?_; dsimp only)); refine bx_ 4 #[.string (⟨#[]⟩ : ByteArray), .int .i64 0] 83 ?_; intro gb236 hg w39 hbox hb; have BK236 := Aside0.mk (hbox); have GW236 := gs_ hg; have GE236 := gs_ hg; have NB232_236 := nl_ hg BK232; have NB236_232 := nr_ hg BK232; replace BK232 := kb_ BK232 hb; replace HB := Aside0.mk (below_step oB hb); clear hb hbox hg; have hnb40 := NB236_232.out; have hnc40 := NB232_236.out; obtain ⟨⟨_, _⟩, _, _⟩ := z2 BK236) | (go_at_call 92; (with_reducible refine (impl_NameOk.calls k2 ((rd_T83 l0_4 x30_2).f0) true _ A19.out).mono ?_); rintro e w' ⟨rfl, ⟨nd, rfl⟩⟩) | (go_at_call 90; (with_reducible refine (impl_from.calls ((rd_T83 l0_4 x30_2).f1) 2 1000 false _ A21.out).mono ?_); rintro e w' ⟨rfl, ⟨nd, rfl⟩⟩)))
           go_ret
           exact ⟨oE, oB⟩
         ·obtain rfl := Option.some.inj H
          have p235 : (0 ≤ (x30_2 : Int)) = True := oT
          have q235 : (x30_2 < (l0_4.length : Int)) = True := oT
          obtain ⟨ad235, e235, hx235_0, hx235_1⟩ := at_T83 HR0_4.out x30_2 oa oa
          cases e235
          replace hx235_0 := cB HB hx235_0
          replace hx235_1 := cB HB hx235_1
          go_wp2_with (first | ((with_reducible refine gate_dst (N := 4) rfl ?_); (try (refine gate_guard (by rfl) ?_; dsimp only)); refine bx_ 4 #[.string (⟨#[]⟩ : ByteArray), .int .i64 0] 83 ?_; intro gb236 hg w42 hbox hb; have BK236 := Aside0.mk (hbox); have GW236 := gs_ hg; have GE236 := gs_ hg; have NB232_236 := nl_ hg BK232; have NB236_232 := nr_ hg BK232; replace BK232 := kb_ BK232 hb; replace HB := Aside0.mk (below_step oB hb); clear hb hbox hg; have hnb43 := NB236_232.out; have hnc43 := NB232_236.out; obtain ⟨⟨_, _⟩, _, _⟩ := z2 BK236) | (go_at_call 92; (with_reducible refine (impl_NameOk.calls k2 ((rd_T83 l0_4 x30_2).f0) false _ A19.out).mono ?_); rintro e w' ⟨rfl, ⟨nd, rfl⟩⟩))
          repeat (go_quiet (first | (go_at_call 92; (with_reducible refine (impl_NameOk.calls k2 ((rd_T83 l0_4 x30_2).f0) false _ A19.out).mono ?_); rintro e w' ⟨rfl, ⟨nd, rfl⟩⟩; exact oQ)); try go_wp2_with (first | ((with_reducible refine gate_dst (N := 4) rfl ?_); (try (refine gate_guard (by rfl) ?_; dsimp only)); refine bx_ 4 #[.string (⟨#[]⟩ : ByteArray), .int .i64 0] 83 ?_; intro gb236 hg w42 hbox hb; have BK236 := Aside0.mk (hbox); have GW236 := gs_ hg; have GE236 := gs_ hg; have NB232_236 := nl_ hg BK232; have NB236_232 := nr_ hg BK232; replace BK232 := kb_ BK232 hb; replace HB := Aside0.mk (below_step oB hb); clear hb hbox hg; have hnb43 := NB236_232.out; have hnc43 := NB232_236.out; obtain ⟨⟨_, _⟩, _, _⟩ := z2 BK236) | (go_at_call 92; (with_reducible refine (impl_NameOk.calls k2 ((rd_T83 l0_4 x30_2).f0) false _ A19.out).mono ?_); rintro e w' ⟨rfl, ⟨nd, rfl⟩⟩)))
          go_ret
          exact ⟨oE, oB⟩
        ·cases H
       ·cases H
      ·have HC45 := Aside0.mk H
       clear H
       go_upto_region 9 with (fail)
       repeat (go_quiet (fail); go_upto_region 9 with (fail))
       go_cut [74] (fun v74 wc => ∃ (kq : Nat) (x74_44 : Bool), v74 = .bool x74_44 ∧ Aside0 (impl_InodeOk.j2 kq x74_44 a0_0 a0_1 a0_2 l0_3 l0_4 l0_5 = some r) ∧ Aside0 (kq ≤ k2) ∧ Aside0 (wc.heap[gb232]? = some (.cells #[.int .i64 a0_0, .int .i64 a0_1, .int .i64 a0_2, (.slice A0_3 l0_3.length c0_3), (.slice A0_4 l0_4.length c0_4), (.slice A0_5 l0_5.length c0_5)] 45 (0, 0))) ∧ Aside0 (Below w.heap.size w wc))
       case first =>
        have H := HC45.out
        clear HC45
        replace H := bA H
        obtain ⟨t240, A46, H⟩ := H
        try dsimp only at H
        replace H := itB H
        rcases H with ⟨rfl, H⟩ | ⟨rfl, H⟩
        ·have H' := Aside0.mk H
         clear H
         obtain ⟨⟨_, _, _, _, _, _⟩, _, _, _, _, _, _⟩ := z6 BK232
         go_wp2_with (first | (go_at_call 90; (with_reducible refine (impl_from.calls a0_2 0 1000 true _ A46.out).mono ?_); rintro e w' ⟨rfl, ⟨nd, rfl⟩⟩))
         repeat (go_quiet (first | (go_at_call 90; (with_reducible refine (impl_from.calls a0_2 0 1000 true _ A46.out).mono ?_); rintro e w' ⟨rfl, ⟨nd, rfl⟩⟩; exact oQ)); try go_wp2_with (first | (go_at_call 90; (with_reducible refine (impl_from.calls a0_2 0 1000 true _ A46.out).mono ?_); rintro e w' ⟨rfl, ⟨nd, rfl⟩⟩)))
         go_meet
         case rel => exact ⟨_, (((a0_2 == 0) != (a0_0 == 1))), oS, H', ⟨by have := HJ1.out; have := HK2.out; first | omega | exact Nat.le_refl _⟩, ⟨oF BK232⟩, ⟨oB⟩⟩
        ·have H' := Aside0.mk H
         clear H
         obtain ⟨⟨_, _, _, _, _, _⟩, _, _, _, _, _, _⟩ := z6 BK232
         go_wp2_with (first | (go_at_call 90; (with_reducible refine (impl_from.calls a0_2 0 1000 false _ A46.out).mono ?_); rintro e w' ⟨rfl, ⟨nd, rfl⟩⟩))
         repeat (go_quiet (first | (go_at_call 90; (with_reducible refine (impl_from.calls a0_2 0 1000 false _ A46.out).mono ?_); rintro e w' ⟨rfl, ⟨nd, rfl⟩⟩; exact oQ)); try go_wp2_with (first | (go_at_call 90; (with_reducible refine (impl_from.calls a0_2 0 1000 false _ A46.out).mono ?_); rintro e w' ⟨rfl, ⟨nd, rfl⟩⟩)))
         go_meet
         case rel => exact ⟨_, (true), oS, H', ⟨by have := HJ1.out; have := HK2.out; first | omega | exact Nat.le_refl _⟩, ⟨oF BK232⟩, ⟨oB⟩⟩
       case rest =>
        clear HC45
        try clear c16b0
        obtain ⟨kq, x74_44, rfl, HA, HJ44, BK232, HB⟩ := hcut
        cases kq with
        | zero => exact absurd HA.out (by simp [impl_InodeOk.j2])
        | succ kj44 =>
         have H := HA.out
         clear HA
         simp only [impl_InodeOk.j2] at H
         replace H := itB H
         rcases H with ⟨rfl, H⟩ | ⟨rfl, H⟩
         ·obtain rfl := Option.some.inj H
          go_wp2
          repeat (go_quiet (fail); try go_wp2)
          go_ret
          exact ⟨oE, oB⟩
         ·by_cases c51 : a0_1 = 1
          ·rw [if_pos c51] at H
           have c51b0 : (a0_1 == 1) = true := beq_iff_eq.mpr c51
           have c51b1 : (a0_1 != 1) = false := bne_eq_false_iff_eq.mpr c51
           clear c51
           obtain rfl := Option.some.inj H
           obtain ⟨⟨_, _, _, _, _, _⟩, _, _, _, _, _, _⟩ := z6 BK232
           go_wp2
           repeat (go_quiet (fail); try go_wp2)
           go_ret
           exact ⟨oE, oB⟩
          ·rw [if_neg c51] at H
           have c51b0 : (a0_1 == 1) = false := beq_eq_false_iff_ne.mpr c51
           have c51b1 : (a0_1 != 1) = true := bne_iff_ne.mpr c51
           by_cases c53 : a0_1 = 2
           ·rw [if_pos c53] at H
            have c53b0 : (a0_1 == 2) = true := beq_iff_eq.mpr c53
            have c53b1 : (a0_1 != 2) = false := bne_eq_false_iff_eq.mpr c53
            clear c53
            by_cases c54 : (l0_3.length : Int) = 0
            ·rw [if_pos c54] at H
             have c54b0 : ((l0_3.length : Int) == 0) = true := beq_iff_eq.mpr c54
             have c54b1 : ((l0_3.length : Int) != 0) = false := bne_eq_false_iff_eq.mpr c54
             clear c54
             obtain rfl := Option.some.inj H
             obtain ⟨⟨_, _, _, _, _, _⟩, _, _, _, _, _, _⟩ := z6 BK232
             go_wp2
             repeat (go_quiet (fail); try go_wp2)
             go_ret
             exact ⟨oE, oB⟩
            ·rw [if_neg c54] at H
             have c54b0 : ((l0_3.length : Int) == 0) = false := beq_eq_false_iff_ne.mpr c54
             have c54b1 : ((l0_3.length : Int) != 0) = true := bne_iff_ne.mpr c54
             have c54b2 : ¬ (l0_3 = []) := fun h_ => c54 (by rw [h_]; rfl)
             obtain rfl := Option.some.inj H
             obtain ⟨⟨_, _, _, _, _, _⟩, _, _, _, _, _, _⟩ := z6 BK232
             go_wp2
             repeat (go_quiet (fail); try go_wp2)
             go_ret
             exact ⟨oE, oB⟩
           ·rw [if_neg c53] at H
            have c53b0 : (a0_1 == 2) = false := beq_eq_false_iff_ne.mpr c53
            have c53b1 : (a0_1 != 2) = true := bne_iff_ne.mpr c53
            obtain rfl := Option.some.inj H
            obtain ⟨⟨_, _, _, _, _, _⟩, _, _, _, _, _, _⟩ := z6 BK232
            go_wp2
            repeat (go_quiet (fail); try go_wp2)
            go_ret
            exact ⟨oE, oB⟩

-- NOT PRINTED: function 111 (slices_IndexFunc_Inode)

/-! ### impl_placeOf: function 103 -/
def placeR (ino : Int) : List S45 → Nat → Int
 | [], _ => -1
 | x :: l, i => if x.f0 = ino then (i : Int) else placeR ino l (i + 1)
theorem placeOf1.calls (ino a b c : Int) (A3 A4 A5 : Option Addr) (n3 c3 n4 c4 n5 c5 : Nat) (B : Nat) (W : World) (hB : B < W.heap.size) (hc : W.cell? ⟨B, 0, none⟩ = some (.int .i64 ino)) :
  Calls Try.prog 133 #[.agg #[.int .i64 a, .int .i64 b, .int .i64 c, .slice A3 n3 c3, .slice A4 n4 c4, .slice A5 n5 c5], .pointer (some ⟨B, 0, none⟩)] W fun e w' => e = .returned (.bool (a == ino)) ∧ Below W.heap.size W w' := by
 have hne : B ≠ W.heap.size := by omega
 go_enter Try.func133, Try.ntmps133
 go_wp2
 all_goals (go_ret; exact ⟨by simp_all, (Below.refl _ W).alloc (Nat.le_refl _) _⟩)
theorem placeR_none (ino : Int) (l : List S45) (i : Nat) (h : ∀ x ∈ l, x.f0 ≠ ino) : placeR ino l i = -1 := by
 induction l generalizing i with
 | nil => rfl
 | cons x l ih => rw [placeR, if_neg (h x (List.mem_cons_self ..))]; exact ih (i + 1) (fun y hy => h y (List.mem_cons_of_mem _ hy))
theorem rd45_at (l : List S45) (k : Nat) (h : k < l.length) : rd_T45 l (k : Int) = l[k] := by
 simp [rd_T45, List.getD_eq_getElem?_getD, List.getElem?_eq_getElem h]
theorem placeR_hit (ino : Int) (l : List S45) (k j : Nat) (h : k < l.length) (hit : (rd_T45 l (k : Int)).f0 = ino) : placeR ino (l.drop k) j = (j : Int) := by
 rw [List.drop_eq_getElem_cons h, placeR, if_pos (by rw [← rd45_at l k h]; exact hit)]
theorem placeR_miss (ino : Int) (l : List S45) (k j : Nat) (h : k < l.length) (hit : (rd_T45 l (k : Int)).f0 ≠ ino) : placeR ino (l.drop k) j = placeR ino (l.drop (k + 1)) (j + 1) := by
 rw [List.drop_eq_getElem_cons h, placeR, if_neg (by rw [← rd45_at l k h]; exact hit)]
set_option maxHeartbeats 400000 in
set_option maxRecDepth 100000 in
theorem placeOf2.calls (ino : Int) (A0 : Option Addr) (c0 : Nat) (l : List S45) (B : Nat) (w : World) (hr : k45.C w A0 l.length l) (hB : B < w.heap.size) (hc : w.cell? ⟨B, 0, none⟩ = some (.int .i64 ino)) (hl : l.length ≤ 9223372036854775807) :
  Calls Try.prog 111 #[.slice A0 l.length c0, .func (.func 133) #[] #[.pointer (some ⟨B, 0, none⟩)]] w fun e w' => e = .returned (.int .i64 (placeR ino l 0)) ∧ Below w.heap.size w w' := by
 go_enter Try.func111, Try.ntmps111
 go_wp2
 go_loopg [5, 8] l.length (fun gg _ s8 wr => ∃ kk : Nat, kk ≤ l.length ∧ l.length - kk ≤ gg ∧ s8 = .int .i64 kk ∧ Aside0 (Below w.heap.size w wr) ∧ Aside0 (placeR ino l 0 = placeR ino (l.drop kk) kk))
 case atStart => exact ⟨0, Nat.zero_le _, by omega, rfl, ⟨Below.refl _ w⟩, ⟨rfl⟩⟩
 case round =>
  obtain ⟨kk, hkk, hg, rfl, BW, A⟩ := hrel
  by_cases hlt : kk < l.length
  ·have hltz : (kk : Int) < (l.length : Int) := by omega
   obtain ⟨ad, A3, c3, A4, c4, A5, c5, e0, h0, h1, h2, h3, h4, h5, _⟩ := at_T45 (Kd.C_below hr BW.out) (kk : Int) (by omega) hltz
   cases e0
   rw [Int.toNat_natCast] at h0 h1 h2 h3 h4 h5
   have hBw : B < wr.heap.size := Nat.lt_of_lt_of_le hB BW.out.size
   have hcw : wr.cell? ⟨B, 0, none⟩ = some (.int .i64 ino) := (BW.out.cell (p := ⟨B, 0, none⟩) hB).trans hc
   by_cases hit : (rd_T45 l (kk : Int)).f0 = ino
   ·have hq : ((rd_T45 l (kk : Int)).f0 == ino) = true := by simpa using hit
    go_wp2_with (go_at_call 133; refine (placeOf1.calls ino _ _ _ _ _ _ _ _ _ _ _ _ B wr hBw hcw).mono ?_; rintro e w' ⟨rfl, hb'⟩)
    go_ret
    exact ⟨by rw [A.out, placeR_hit ino l kk kk hlt hit]; rfl, below_then BW.out BW.out.size hb'⟩
   ·have hq : ((rd_T45 l (kk : Int)).f0 == ino) = false := by simpa using hit
    go_wp2_with (go_at_call 133; refine (placeOf1.calls ino _ _ _ _ _ _ _ _ _ _ _ _ B wr hBw hcw).mono ?_; rintro e w' ⟨rfl, hb'⟩)
    go_roundg (l.length - (kk + 1))
    case measure => omega
    case rel => exact ⟨kk + 1, by omega, by omega, by go_num, ⟨below_then BW.out BW.out.size hb'⟩, ⟨by rw [A.out, placeR_miss ino l kk kk hlt hit]⟩⟩
  ·have hltz : ¬ (kk : Int) < (l.length : Int) := by omega
   obtain rfl : kk = l.length := by omega
   go_wp2
   go_ret
   exact ⟨by rw [A.out, List.drop_length]; rfl, BW.out⟩
def impl_placeOf.f (k : Nat) (l0_0 : List S45) (a0_1 a1 : Int) : Option Int := if (l0_0.length : Int) ≤ 9223372036854775807 then some (placeR a1 l0_0 0) else none
set_option maxHeartbeats 400000 in
theorem impl_placeOf.calls (k : Nat) (A0_0 : Option Addr) (c0_0 : Nat) (l0_0 : List S45) (a0_1 a1 : Int) (r : Int) (w : World) (hr0_0 : Kd.C k45 w A0_0 l0_0.length l0_0) (hc0_0 : l0_0.length ≤ c0_0) (h : impl_placeOf.f k l0_0 a0_1 a1 = some r) :
  Calls Try.prog 103 #[.agg #[.slice A0_0 l0_0.length c0_0, .int .i64 a0_1], .int .i64 a1] w fun e w' => e = .returned (.int .i64 r) ∧ Below w.heap.size w w' := by
 unfold impl_placeOf.f at h
 split at h
 case isFalse => cases h
 case isTrue hl =>
 obtain rfl := Option.some.inj h
 clear h
 have hw1 : Below w.heap.size w (w.alloc (.cells #[.slice A0_0 l0_0.length c0_0, .int .i64 a0_1] 30)) := (Below.refl _ w).alloc (Nat.le_refl _) _
 have hw2 : Below w.heap.size w ((w.alloc (.cells #[.slice A0_0 l0_0.length c0_0, .int .i64 a0_1] 30)).alloc (.cells #[.int .i64 a1] 3)) := hw1.alloc (by simp) _
 have hcon := placeOf2.calls a1 A0_0 c0_0 l0_0 (w.heap.size + 1) ((w.alloc (.cells #[.slice A0_0 l0_0.length c0_0, .int .i64 a0_1] 30)).alloc (.cells #[.int .i64 a1] 3)) (Kd.C_below hr0_0 hw2) (by simp) (by simp) (by omega)
 clear hr0_0 hw1
 go_enter Try.func103, Try.ntmps103
 go_wp2_with (go_at_call 111; refine hcon.mono ?_; rintro e w' ⟨rfl, hb'⟩)
 go_ret
 exact ⟨rfl, below_then hw2 (by simp only [World.size_alloc]; omega) hb'⟩
/-! ### slices_Clone_byte_byte: function 131 -/
def slices_Clone_byte_byte.f (l0 : List Int) : Option (List Int) := (some (([] : List Int) : List Int)).bind fun y241 => (if y241.length + l0.length < 140737488355328 then (some (y241 ++ l0)) else (none))
set_option maxHeartbeats 8000000 in
set_option maxRecDepth 100000 in
theorem slices_Clone_byte_byte.calls_some (a0_ : Addr) (c0 : Nat) (l0 : List Int) (r : List Int) (w : World) (hr0 : Kd.C (Kd.int .u8) w (some a0_) l0.length l0) (hc0 : l0.length ≤ c0) (h : slices_Clone_byte_byte.f l0 = some r) :
  Calls Try.prog 131 #[.slice (some a0_) l0.length c0] w fun e w' => ∃ v0_ : Value, e = .returned (v0_) ∧ Kd.R (Kd.int .u8) 5 w' w.heap.size (fun _ => True) v0_ r ∧ Below w.heap.size w w' := by
 have HR0 := Aside0.mk hr0
 have HC0 := Aside0.mk hc0
 clear hr0 hc0
 have HB := Aside0.mk (Below.refl w.heap.size w)
 unfold slices_Clone_byte_byte.f at h
 have H := h
 clear h
 obtain ⟨y241, hy241⟩ : ∃ y_ : List Int, y_ = (([] : List Int)) := ⟨_, rfl⟩
 replace H : (if y241.length + l0.length < 140737488355328 then (some (y241 ++ l0)) else (none)) = some r := by first | (rw [hy241]; with_reducible exact H) | (have H2_ := (Option.bind_some _ _).symm.trans H; rw [hy241]; with_reducible exact H2_) | (have H2_ := (Option.bind_some _ _).symm.trans H; with_reducible exact H2_) | with_reducible exact H | (rw [hy241]; exact H) | exact H
 have Ny241 := Aside0.mk hy241
 clear hy241
 by_cases c2 : y241.length + l0.length < 140737488355328
 ·rw [if_pos c2] at H
  have LMc2 := Aside0.mk c2
  clear c2
  obtain ⟨y244, hy244⟩ : ∃ y_ : List Int, y_ = (y241 ++ l0) := ⟨_, rfl⟩
  replace H : (some y244) = some r := by first | (rw [hy244]; with_reducible exact H) | (have H2_ := (Option.bind_some _ _).symm.trans H; rw [hy244]; with_reducible exact H2_) | (have H2_ := (Option.bind_some _ _).symm.trans H; with_reducible exact H2_) | with_reducible exact H | (rw [hy244]; exact H) | exact H
  have Ny244 := Aside0.mk hy244
  clear hy244
  obtain rfl := Option.some.inj H
  have hq_ := Lib.run_eql_slice_nil (P := Try.prog) w 35 5 (some a0_) l0.length c0 0 0 (by kernel_rfl)
  go_enter Try.func131, Try.ntmps131
  go_wp2_with (first | ((with_reducible refine gate_dst (N := 5) rfl ?_); refine Kd.R_lit (Kd.int .u8) _ 5 ?hg (N := 5) ?hd (xs := ([] : List Int)) (inner := []) (ok := fun _ => True) (okp := fun _ => True) ?hr ?hp (fun _ hk => hk) trivial (Below.refl _ _) (Nat.le_refl _) (by simp) ?_; (case hd => rfl); (case hg => rfl); (case hr => first | (go_simp; done) | (go_simp; rfl)); (case hp => exact (Reps.none _ _)); intro v242 w3 ho4 hb hg_ hnew_; clear hg_ hnew_; (first | rw [← Ny241.out] at ho4 | (simp only [Int.reduceToNat] at ho4; rw [← Ny241.out] at ho4)); have HO243 := Aside0.mk (Kd.R_lower ho4 (below_size oB)); replace HB := Aside0.mk (below_step oB hb); clear hb ho4) | ((with_reducible refine gate_builtin (b := .append) (xs := #[.tmp 5, .tmp 6]) rfl ?_); at_builtin; refine Kd.R_append_rows (Kd.int .u8) (w0 := w) w.heap.size rfl (.tmp 5) (.tmp 6) 35 5 (.int .u8 0) 1 rfl Try.underlying35 info5 rfl (by decide) (by omega) v242 y241 l0 _ _ _ (fun _ => True) (fun _ => False) rfl rfl ?aO ?aR (fun _ _ h => h) (fun _ h => h.elim) ?aF ?aB ?aS ?aL ?_; (case aR => repeat (first | exact (Kd.C_below HR0.out HB.out) | (with_reducible refine Kd.C_alloc ?_ _) | (with_reducible refine Kd.C_drewN ?_ _) | (with_reducible refine Kd.C_drew ?_))); (case aB => exact oB); (case aF => exact (fun _ _ => trivial)); (case aO => exact (oR HO243)); (case aS => exact (below_size oB)); (case aL => have := LMc2.out; omega); intro v245 w5 ho hb hg hat; rw [← Ny244.out] at ho; have HO246 := Aside0.mk (ho); replace HB := Aside0.mk (hb); clear HO243; clear ho hb hg hat))
  go_ret
  exact ⟨_, oE, oR HO246, oB⟩
 ·rw [if_neg c2] at H
  exact absurd H (by simp)

set_option maxHeartbeats 8000000 in
set_option maxRecDepth 100000 in
theorem slices_Clone_byte_byte.calls (A0 : Option Addr) (c0 : Nat) (l0 : List Int) (r : List Int) (w : World) (hr0 : Kd.C (Kd.int .u8) w A0 l0.length l0) (hc0 : l0.length ≤ c0) (h : slices_Clone_byte_byte.f l0 = some r) :
  Calls Try.prog 131 #[.slice A0 l0.length c0] w fun e w' => ∃ v0_ : Value, e = .returned (v0_) ∧ Kd.R (Kd.int .u8) 5 w' w.heap.size (fun _ => True) v0_ r ∧ Below w.heap.size w w' := by
 rcases A0 with _ | a0_
 ·have hl_ : l0 = [] := by
   rcases Nat.eq_zero_or_pos l0.length with hz_ | hz_
   ·exact List.eq_nil_of_length_eq_zero hz_
   ·obtain ⟨ad_, he_, _⟩ := hr0.2.2 hz_
    cases he_
  subst hl_
  obtain rfl : r = [] := by
   simp [slices_Clone_byte_byte.f] at h
   exact h
  have hq_ := Lib.run_eql_slice_nil (P := Try.prog) w 35 5 none 0 c0 0 0 (by kernel_rfl)
  go_enter Try.func131, Try.ntmps131
  go_wp2
  go_ret
  exact ⟨_, rfl, Kd.R_nil _ _ _ _ _, Below.refl _ _⟩
 ·exact slices_Clone_byte_byte.calls_some a0_ c0 l0 r w hr0 hc0 h

/-! ### slices_Clone_Ent: function 134 -/
def slices_Clone_Ent.f (l0 : List (S83)) : Option ((List (S83))) := (some (([] : List (S83)) : List (S83))).bind fun y247 => (if y247.length + l0.length < 5864062014805 then (some (y247 ++ l0)) else (none))
set_option maxHeartbeats 8000000 in
set_option maxRecDepth 100000 in
theorem slices_Clone_Ent.calls_some (a0_ : Addr) (c0 : Nat) (l0 : List (S83)) (r : List (S83)) (w : World) (hr0 : Kd.C k83 w (some a0_) l0.length l0) (hc0 : l0.length ≤ c0) (h : slices_Clone_Ent.f l0 = some r) :
  Calls Try.prog 134 #[.slice (some a0_) l0.length c0] w fun e w' => ∃ v0_ : Value, e = .returned (v0_) ∧ Kd.R k83 83 w' w.heap.size (fun _ => True) v0_ r ∧ Below w.heap.size w w' := by
 have HR0 := Aside0.mk hr0
 have HC0 := Aside0.mk hc0
 clear hr0 hc0
 have HB := Aside0.mk (Below.refl w.heap.size w)
 unfold slices_Clone_Ent.f at h
 have H := h
 clear h
 obtain ⟨y247, hy247⟩ : ∃ y_ : List (S83), y_ = (([] : List (S83))) := ⟨_, rfl⟩
 replace H : (if y247.length + l0.length < 5864062014805 then (some (y247 ++ l0)) else (none)) = some r := by first | (rw [hy247]; with_reducible exact H) | (have H2_ := (Option.bind_some _ _).symm.trans H; rw [hy247]; with_reducible exact H2_) | (have H2_ := (Option.bind_some _ _).symm.trans H; with_reducible exact H2_) | with_reducible exact H | (rw [hy247]; exact H) | exact H
 have Ny247 := Aside0.mk hy247
 clear hy247
 by_cases c2 : y247.length + l0.length < 5864062014805
 ·rw [if_pos c2] at H
  have LMc2 := Aside0.mk c2
  clear c2
  obtain ⟨y250, hy250⟩ : ∃ y_ : List (S83), y_ = (y247 ++ l0) := ⟨_, rfl⟩
  replace H : (some y250) = some r := by first | (rw [hy250]; with_reducible exact H) | (have H2_ := (Option.bind_some _ _).symm.trans H; rw [hy250]; with_reducible exact H2_) | (have H2_ := (Option.bind_some _ _).symm.trans H; with_reducible exact H2_) | with_reducible exact H | (rw [hy250]; exact H) | exact H
  have Ny250 := Aside0.mk hy250
  clear hy250
  obtain rfl := Option.some.inj H
  have hq_ := Lib.run_eql_slice_nil (P := Try.prog) w 42 83 (some a0_) l0.length c0 0 0 (by kernel_rfl)
  go_enter Try.func134, Try.ntmps134
  go_wp2_with (first | ((with_reducible refine gate_dst (N := 5) rfl ?_); refine Kd.R_lit k83 _ 83 ?hg (N := 5) ?hd (xs := ([] : List (S83))) (inner := []) (ok := fun _ => True) (okp := fun _ => True) ?hr ?hp (fun _ hk => hk) trivial (Below.refl _ _) (Nat.le_refl _) (by simp) ?_; (case hd => rfl); (case hg => rfl); (case hr => first | (go_simp; done) | (go_simp; rfl)); (case hp => exact (Reps.none _ _)); intro v248 w3 ho4 hb hg_ hnew_; clear hg_ hnew_; (first | rw [← Ny247.out] at ho4 | (simp only [Int.reduceToNat] at ho4; rw [← Ny247.out] at ho4)); have HO249 := Aside0.mk (Kd.R_lower ho4 (below_size oB)); replace HB := Aside0.mk (below_step oB hb); clear hb ho4) | ((with_reducible refine gate_builtin (b := .append) (xs := #[.tmp 5, .tmp 6]) rfl ?_); at_builtin; refine Kd.R_append_rows k83 (w0 := w) w.heap.size rfl (.tmp 5) (.tmp 6) 42 83 (.agg #[(.string ⟨#[]⟩), (.int .i64 0)]) 24 rfl Try.underlying42 info83 rfl (by decide) (by omega) v248 y247 l0 _ _ _ (fun _ => True) (fun _ => False) rfl rfl ?aO ?aR (fun _ _ h => h) (fun _ h => h.elim) ?aF ?aB ?aS ?aL ?_; (case aR => repeat (first | exact (Kd.C_below HR0.out HB.out) | (with_reducible refine Kd.C_alloc ?_ _) | (with_reducible refine Kd.C_drewN ?_ _) | (with_reducible refine Kd.C_drew ?_))); (case aB => exact oB); (case aF => exact (fun _ _ => trivial)); (case aO => exact (oR HO249)); (case aS => exact (below_size oB)); (case aL => have := LMc2.out; omega); intro v251 w5 ho hb hg hat; rw [← Ny250.out] at ho; have HO252 := Aside0.mk (ho); replace HB := Aside0.mk (hb); clear HO249; clear ho hb hg hat))
  go_ret
  exact ⟨_, oE, oR HO252, oB⟩
 ·rw [if_neg c2] at H
  exact absurd H (by simp)

set_option maxHeartbeats 8000000 in
set_option maxRecDepth 100000 in
theorem slices_Clone_Ent.calls (A0 : Option Addr) (c0 : Nat) (l0 : List (S83)) (r : List (S83)) (w : World) (hr0 : Kd.C k83 w A0 l0.length l0) (hc0 : l0.length ≤ c0) (h : slices_Clone_Ent.f l0 = some r) :
  Calls Try.prog 134 #[.slice A0 l0.length c0] w fun e w' => ∃ v0_ : Value, e = .returned (v0_) ∧ Kd.R k83 83 w' w.heap.size (fun _ => True) v0_ r ∧ Below w.heap.size w w' := by
 rcases A0 with _ | a0_
 ·have hl_ : l0 = [] := by
   rcases Nat.eq_zero_or_pos l0.length with hz_ | hz_
   ·exact List.eq_nil_of_length_eq_zero hz_
   ·obtain ⟨ad_, he_, _⟩ := hr0.2.2 hz_
    cases he_
  subst hl_
  obtain rfl : r = [] := by
   simp [slices_Clone_Ent.f] at h
   exact h
  have hq_ := Lib.run_eql_slice_nil (P := Try.prog) w 42 83 none 0 c0 0 0 (by kernel_rfl)
  go_enter Try.func134, Try.ntmps134
  go_wp2
  go_ret
  exact ⟨_, rfl, Kd.R_nil _ _ _ _ _, Below.refl _ _⟩
 ·exact slices_Clone_Ent.calls_some a0_ c0 l0 r w hr0 hc0 h

/-! ### slices_Clone_Attr: function 135 -/
def slices_Clone_Attr.f (l0 : List (S85)) : Option ((List (S85))) := (some (([] : List (S85)) : List (S85))).bind fun y253 => (if y253.length + l0.length < 4398046511104 then (some (y253 ++ l0)) else (none))
set_option maxHeartbeats 8000000 in
set_option maxRecDepth 100000 in
theorem slices_Clone_Attr.calls_some (a0_ : Addr) (c0 : Nat) (l0 : List (S85)) (r : List (S85)) (w : World) (hr0 : Kd.C k85 w (some a0_) l0.length l0) (hc0 : l0.length ≤ c0) (h : slices_Clone_Attr.f l0 = some r) :
  Calls Try.prog 135 #[.slice (some a0_) l0.length c0] w fun e w' => ∃ v0_ : Value, e = .returned (v0_) ∧ Kd.R k85 85 w' w.heap.size (fun _ => True) v0_ r ∧ Below w.heap.size w w' := by
 have HR0 := Aside0.mk hr0
 have HC0 := Aside0.mk hc0
 clear hr0 hc0
 have HB := Aside0.mk (Below.refl w.heap.size w)
 unfold slices_Clone_Attr.f at h
 have H := h
 clear h
 obtain ⟨y253, hy253⟩ : ∃ y_ : List (S85), y_ = (([] : List (S85))) := ⟨_, rfl⟩
 replace H : (if y253.length + l0.length < 4398046511104 then (some (y253 ++ l0)) else (none)) = some r := by first | (rw [hy253]; with_reducible exact H) | (have H2_ := (Option.bind_some _ _).symm.trans H; rw [hy253]; with_reducible exact H2_) | (have H2_ := (Option.bind_some _ _).symm.trans H; with_reducible exact H2_) | with_reducible exact H | (rw [hy253]; exact H) | exact H
 have Ny253 := Aside0.mk hy253
 clear hy253
 by_cases c2 : y253.length + l0.length < 4398046511104
 ·rw [if_pos c2] at H
  have LMc2 := Aside0.mk c2
  clear c2
  obtain ⟨y256, hy256⟩ : ∃ y_ : List (S85), y_ = (y253 ++ l0) := ⟨_, rfl⟩
  replace H : (some y256) = some r := by first | (rw [hy256]; with_reducible exact H) | (have H2_ := (Option.bind_some _ _).symm.trans H; rw [hy256]; with_reducible exact H2_) | (have H2_ := (Option.bind_some _ _).symm.trans H; with_reducible exact H2_) | with_reducible exact H | (rw [hy256]; exact H) | exact H
  have Ny256 := Aside0.mk hy256
  clear hy256
  obtain rfl := Option.some.inj H
  have hq_ := Lib.run_eql_slice_nil (P := Try.prog) w 43 85 (some a0_) l0.length c0 0 0 (by kernel_rfl)
  go_enter Try.func135, Try.ntmps135
  go_wp2_with (first | ((with_reducible refine gate_dst (N := 5) rfl ?_); refine Kd.R_lit k85 _ 85 ?hg (N := 5) ?hd (xs := ([] : List (S85))) (inner := []) (ok := fun _ => True) (okp := fun _ => True) ?hr ?hp (fun _ hk => hk) trivial (Below.refl _ _) (Nat.le_refl _) (by simp) ?_; (case hd => rfl); (case hg => rfl); (case hr => first | (go_simp; done) | (go_simp; rfl)); (case hp => exact (Reps.none _ _)); intro v254 w3 ho4 hb hg_ hnew_; clear hg_ hnew_; (first | rw [← Ny253.out] at ho4 | (simp only [Int.reduceToNat] at ho4; rw [← Ny253.out] at ho4)); have HO255 := Aside0.mk (Kd.R_lower ho4 (below_size oB)); replace HB := Aside0.mk (below_step oB hb); clear hb ho4) | ((with_reducible refine gate_builtin (b := .append) (xs := #[.tmp 5, .tmp 6]) rfl ?_); at_builtin; refine Kd.R_append_rows k85 (w0 := w) w.heap.size rfl (.tmp 5) (.tmp 6) 43 85 (.agg #[(.string ⟨#[]⟩), (.string ⟨#[]⟩)]) 32 rfl Try.underlying43 info85 rfl (by decide) (by omega) v254 y253 l0 _ _ _ (fun _ => True) (fun _ => False) rfl rfl ?aO ?aR (fun _ _ h => h) (fun _ h => h.elim) ?aF ?aB ?aS ?aL ?_; (case aR => repeat (first | exact (Kd.C_below HR0.out HB.out) | (with_reducible refine Kd.C_alloc ?_ _) | (with_reducible refine Kd.C_drewN ?_ _) | (with_reducible refine Kd.C_drew ?_))); (case aB => exact oB); (case aF => exact (fun _ _ => trivial)); (case aO => exact (oR HO255)); (case aS => exact (below_size oB)); (case aL => have := LMc2.out; omega); intro v257 w5 ho hb hg hat; rw [← Ny256.out] at ho; have HO258 := Aside0.mk (ho); replace HB := Aside0.mk (hb); clear HO255; clear ho hb hg hat))
  go_ret
  exact ⟨_, oE, oR HO258, oB⟩
 ·rw [if_neg c2] at H
  exact absurd H (by simp)

set_option maxHeartbeats 8000000 in
set_option maxRecDepth 100000 in
theorem slices_Clone_Attr.calls (A0 : Option Addr) (c0 : Nat) (l0 : List (S85)) (r : List (S85)) (w : World) (hr0 : Kd.C k85 w A0 l0.length l0) (hc0 : l0.length ≤ c0) (h : slices_Clone_Attr.f l0 = some r) :
  Calls Try.prog 135 #[.slice A0 l0.length c0] w fun e w' => ∃ v0_ : Value, e = .returned (v0_) ∧ Kd.R k85 85 w' w.heap.size (fun _ => True) v0_ r ∧ Below w.heap.size w w' := by
 rcases A0 with _ | a0_
 ·have hl_ : l0 = [] := by
   rcases Nat.eq_zero_or_pos l0.length with hz_ | hz_
   ·exact List.eq_nil_of_length_eq_zero hz_
   ·obtain ⟨ad_, he_, _⟩ := hr0.2.2 hz_
    cases he_
  subst hl_
  obtain rfl : r = [] := by
   simp [slices_Clone_Attr.f] at h
   exact h
  have hq_ := Lib.run_eql_slice_nil (P := Try.prog) w 43 85 none 0 c0 0 0 (by kernel_rfl)
  go_enter Try.func135, Try.ntmps135
  go_wp2
  go_ret
  exact ⟨_, rfl, Kd.R_nil _ _ _ _ _, Below.refl _ _⟩
 ·exact slices_Clone_Attr.calls_some a0_ c0 l0 r w hr0 hc0 h

/-! ### impl_copyInode: function 104 -/
def impl_copyInode.f (a0_0 : Int) (a0_1 : Int) (a0_2 : Int) (l0_3 : List Int) (l0_4 : List (S83)) (l0_5 : List (S85)) : Option (Int × Int × Int × List Int × (List (S83)) × (List (S85))) := (slices_Clone_byte_byte.f l0_3).bind fun t261 => ((slices_Clone_Ent.f l0_4).bind fun t264 => ((slices_Clone_Attr.f l0_5).bind fun t267 => (some (a0_0, a0_1, a0_2, t261, t264, t267))))
set_option maxHeartbeats 8000000 in
set_option maxRecDepth 100000 in
theorem impl_copyInode.calls (a0_0 : Int) (a0_1 : Int) (a0_2 : Int) (A0_3 : Option Addr) (c0_3 : Nat) (l0_3 : List Int) (A0_4 : Option Addr) (c0_4 : Nat) (l0_4 : List (S83)) (A0_5 : Option Addr) (c0_5 : Nat) (l0_5 : List (S85)) (r1 : Int) (r2 : Int) (r3 : Int) (r4 : List Int) (r5 : List (S83)) (r6 : List (S85)) (w : World) (hr0_3 : Kd.C (Kd.int .u8) w A0_3 l0_3.length l0_3) (hc0_3 : l0_3.length ≤ c0_3) (hr0_4 : Kd.C k83 w A0_4 l0_4.length l0_4) (hc0_4 : l0_4.length ≤ c0_4) (hr0_5 : Kd.C k85 w A0_5 l0_5.length l0_5) (hc0_5 : l0_5.length ≤ c0_5) (h : impl_copyInode.f a0_0 a0_1 a0_2 l0_3 l0_4 l0_5 = some (r1, r2, r3, r4, r5, r6)) :
  Calls Try.prog 104 #[.agg #[.int .i64 a0_0, .int .i64 a0_1, .int .i64 a0_2, .slice A0_3 l0_3.length c0_3, .slice A0_4 l0_4.length c0_4, .slice A0_5 l0_5.length c0_5]] w fun e w' => ∃ v3_ v4_ v5_ : Value, e = .returned (.agg #[.int .i64 r1, .int .i64 r2, .int .i64 r3, v3_, v4_, v5_]) ∧ Kd.R (Kd.int .u8) 5 w' w.heap.size (fun _ => True) v3_ r4 ∧ Kd.R k83 83 w' w.heap.size (fun _ => True) v4_ r5 ∧ Kd.R k85 85 w' w.heap.size (fun _ => True) v5_ r6 ∧ Below w.heap.size w w' := by
 have hu45 := Try.underlying45
 have HR0_3 := Aside0.mk hr0_3
 have HC0_3 := Aside0.mk hc0_3
 clear hr0_3 hc0_3
 have HR0_4 := Aside0.mk hr0_4
 have HC0_4 := Aside0.mk hc0_4
 clear hr0_4 hc0_4
 have HR0_5 := Aside0.mk hr0_5
 have HC0_5 := Aside0.mk hc0_5
 clear hr0_5 hc0_5
 have HB := Aside0.mk (Below.refl w.heap.size w)
 unfold impl_copyInode.f at h
 have H := h
 clear h
 replace H := bA H
 obtain ⟨t261, A2, H⟩ := H
 try dsimp only at H
 replace H := bA H
 obtain ⟨t264, A3, H⟩ := H
 try dsimp only at H
 replace H := bA H
 obtain ⟨t267, A4, H⟩ := H
 try dsimp only at H
 simp only [Option.some.injEq, Prod.mk.injEq] at H
 obtain ⟨rfl, rfl, rfl, rfl, rfl, rfl⟩ := H
 go_enter Try.func104, Try.ntmps104
 go_wp2_with (first | ((with_reducible refine gate_dst (N := 1) rfl ?_); refine bx_ 1 #[.int .i64 a0_0, .int .i64 a0_1, .int .i64 a0_2, .slice A0_3 l0_3.length c0_3, .slice A0_4 l0_4.length c0_4, .slice A0_5 l0_5.length c0_5] 45 ?_; intro gb259 hg w5 hbox hb; have BK259 := Aside0.mk (hbox); have GW259 := gs_ hg; have GE259 := gs_ hg; replace HB := Aside0.mk (below_step oB hb); clear hb hbox hg) | ((with_reducible refine gate_dst (N := 2) rfl ?_); refine bx_ 2 #[.int .i64 0, .int .i64 0, .int .i64 0, .slice none 0 0, .slice none 0 0, .slice none 0 0] 45 ?_; intro gb260 hg w6 hbox hb; have BK260 := Aside0.mk (hbox); have GW260 := gs_ hg; have GE260 := gs_ hg; have NB259_260 := nl_ hg BK259; have NB260_259 := nr_ hg BK259; replace BK259 := kb_ BK259 hb; replace HB := Aside0.mk (below_step oB hb); clear hb hbox hg; have hnb7 := NB259_260.out; have hnc7 := NB260_259.out; obtain ⟨⟨_, _, _, _, _, _⟩, _, _, _, _, _, _⟩ := z6 BK259) | ((with_reducible refine gate_callee (f := 131) rfl ?_); refine gl_ 5 Try.func131 (slices_Clone_byte_byte.calls _ _ l0_3 t261 _ (kC HR0_3) HC0_3.out A2.out) ?_; rintro e w9 ⟨v262, rfl, ho0, hb⟩; refine ⟨_, rfl, ?_⟩; have HO263 := Aside0.mk (Kd.R_lower ho0 (below_size oB)); replace BK259 := kb_ BK259 hb; replace BK260 := kb_ BK260 hb; replace HB := Aside0.mk (below_step oB hb); obtain ⟨Ao10, co10, eo10⟩ := Kd.R_slice HO263.out; subst eo10; obtain ⟨⟨_, _, _, _, _, _⟩, _, _, _, _, _, _⟩ := z6 BK259) | ((with_reducible refine gate_callee (f := 134) rfl ?_); refine gl_ 9 Try.func134 (slices_Clone_Ent.calls _ _ l0_4 t264 _ ?side1 HC0_4.out A3.out) ?_; (case side1 => exact Kd.C_below HR0_4.out oB); rintro e w12 ⟨v265, rfl, ho0, hb⟩; refine ⟨_, rfl, ?_⟩; have HO266 := Aside0.mk (Kd.R_lower ho0 (below_size oB)); replace HO263 := Aside0.mk (Kd.R_below (by (with_reducible repeat (first | apply Kd.R_alloc | apply Kd.R_drewN | apply Kd.R_drew)); exact (Kd.R_mono (Kd.R_far (p := ⟨gb259, 3, none⟩) (Kd.R_types HO263.out BK259.out (by decide)) (fun _ hk => hk.2) (.slice Ao10 t261.length co10)) (fun _ h_ => h_.1))) hb); replace BK259 := Aside0.mk (blk_below (g := gb259) (o := .cells #[.int .i64 a0_0, .int .i64 a0_1, .int .i64 a0_2, .slice Ao10 t261.length co10, .slice A0_4 l0_4.length c0_4, .slice A0_5 l0_5.length c0_5] 45 (0, 0)) (by (with_reducible repeat (first | refine blk_drewN ?_ _ | refine blk_drew ?_ | refine blk_alloc ?_ _)); refine blk_put (cs := #[.int .i64 a0_0, .int .i64 a0_1, .int .i64 a0_2, .slice A0_3 l0_3.length c0_3, .slice A0_4 l0_4.length c0_4, .slice A0_5 l0_5.length c0_5]) ?_ 3 _ rfl; (with_reducible repeat (first | refine blk_drewN ?_ _ | refine blk_drew ?_ | refine blk_alloc ?_ _)); exact BK259.out) hb); replace BK260 := Aside0.mk (blk_below (g := gb260) (o := .cells #[.int .i64 0, .int .i64 0, .int .i64 0, .slice none 0 0, .slice none 0 0, .slice none 0 0] 45 (0, 0)) (by (with_reducible repeat (first | refine blk_drewN ?_ _ | refine blk_drew ?_ | refine blk_alloc ?_ _)); refine blk_far ?_ NB260_259.out _; (with_reducible repeat (first | refine blk_drewN ?_ _ | refine blk_drew ?_ | refine blk_alloc ?_ _)); exact BK260.out) hb); replace HB := Aside0.mk (below_step oB hb); (try clear hk); obtain ⟨Ao13, co13, eo13⟩ := Kd.R_slice HO266.out; subst eo13; obtain ⟨⟨_, _, _, _, _, _⟩, _, _, _, _, _, _⟩ := z6 BK259) | ((with_reducible refine gate_callee (f := 135) rfl ?_); refine gl_ 13 Try.func135 (slices_Clone_Attr.calls _ _ l0_5 t267 _ ?side1 HC0_5.out A4.out) ?_; (case side1 => exact Kd.C_below HR0_5.out oB); rintro e w15 ⟨v268, rfl, ho0, hb⟩; refine ⟨_, rfl, ?_⟩; have HO269 := Aside0.mk (Kd.R_lower ho0 (below_size oB)); replace HO263 := Aside0.mk (Kd.R_below (by (with_reducible repeat (first | apply Kd.R_alloc | apply Kd.R_drewN | apply Kd.R_drew)); exact (Kd.R_mono (Kd.R_far (p := ⟨gb259, 4, none⟩) (Kd.R_types HO263.out BK259.out (by decide)) (fun _ hk => hk.2) (.slice Ao13 t264.length co13)) (fun _ h_ => h_.1))) hb); replace HO266 := Aside0.mk (Kd.R_below (by (with_reducible repeat (first | apply Kd.R_alloc | apply Kd.R_drewN | apply Kd.R_drew)); exact (Kd.R_mono (Kd.R_far (p := ⟨gb259, 4, none⟩) (Kd.R_types HO266.out BK259.out (by decide)) (fun _ hk => hk.2) (.slice Ao13 t264.length co13)) (fun _ h_ => h_.1))) hb); replace BK259 := Aside0.mk (blk_below (g := gb259) (o := .cells #[.int .i64 a0_0, .int .i64 a0_1, .int .i64 a0_2, .slice Ao10 t261.length co10, .slice Ao13 t264.length co13, .slice A0_5 l0_5.length c0_5] 45 (0, 0)) (by (with_reducible repeat (first | refine blk_drewN ?_ _ | refine blk_drew ?_ | refine blk_alloc ?_ _)); refine blk_put (cs := #[.int .i64 a0_0, .int .i64 a0_1, .int .i64 a0_2, .slice Ao10 t261.length co10, .slice A0_4 l0_4.length c0_4, .slice A0_5 l0_5.length c0_5]) ?_ 4 _ rfl; (with_reducible repeat (first | refine blk_drewN ?_ _ | refine blk_drew ?_ | refine blk_alloc ?_ _)); exact BK259.out) hb); replace BK260 := Aside0.mk (blk_below (g := gb260) (o := .cells #[.int .i64 0, .int .i64 0, .int .i64 0, .slice none 0 0, .slice none 0 0, .slice none 0 0] 45 (0, 0)) (by (with_reducible repeat (first | refine blk_drewN ?_ _ | refine blk_drew ?_ | refine blk_alloc ?_ _)); refine blk_far ?_ NB260_259.out _; (with_reducible repeat (first | refine blk_drewN ?_ _ | refine blk_drew ?_ | refine blk_alloc ?_ _)); exact BK260.out) hb); replace HB := Aside0.mk (below_step oB hb); (try clear hk); obtain ⟨Ao16, co16, eo16⟩ := Kd.R_slice HO269.out; subst eo16; obtain ⟨⟨_, _, _, _, _, _⟩, _, _, _, _, _, _⟩ := z6 BK259; obtain ⟨⟨_, _, _, _, _, _⟩, _, _, _, _, _, _⟩ := z6 BK260))
 refine bodyPost_ret (results_cell_row rfl _ _ gb260 45 #[.int .i64 a0_0, .int .i64 a0_1, .int .i64 a0_2, .slice Ao10 t261.length co10, .slice Ao13 t264.length co13, .slice Ao16 t267.length co16] (0, 0) _ rfl (by (with_reducible repeat (first | refine blk_drewN ?_ _ | refine blk_drew ?_ | refine blk_alloc ?_ _)); refine blk_put (cs := #[.int .i64 a0_0, .int .i64 a0_1, .int .i64 a0_2, .slice Ao10 t261.length co10, .slice Ao13 t264.length co13, .slice none 0 0]) ?_ 5 _ rfl; (with_reducible repeat (first | refine blk_drewN ?_ _ | refine blk_drew ?_ | refine blk_alloc ?_ _)); refine blk_put (cs := #[.int .i64 a0_0, .int .i64 a0_1, .int .i64 a0_2, .slice Ao10 t261.length co10, .slice none 0 0, .slice none 0 0]) ?_ 4 _ rfl; (with_reducible repeat (first | refine blk_drewN ?_ _ | refine blk_drew ?_ | refine blk_alloc ?_ _)); refine blk_put (cs := #[.int .i64 a0_0, .int .i64 a0_1, .int .i64 a0_2, .slice none 0 0, .slice none 0 0, .slice none 0 0]) ?_ 3 _ rfl; (with_reducible repeat (first | refine blk_drewN ?_ _ | refine blk_drew ?_ | refine blk_alloc ?_ _)); refine blk_put (cs := #[.int .i64 a0_0, .int .i64 a0_1, .int .i64 0, .slice none 0 0, .slice none 0 0, .slice none 0 0]) ?_ 2 _ rfl; (with_reducible repeat (first | refine blk_drewN ?_ _ | refine blk_drew ?_ | refine blk_alloc ?_ _)); refine blk_put (cs := #[.int .i64 a0_0, .int .i64 0, .int .i64 0, .slice none 0 0, .slice none 0 0, .slice none 0 0]) ?_ 1 _ rfl; (with_reducible repeat (first | refine blk_drewN ?_ _ | refine blk_drew ?_ | refine blk_alloc ?_ _)); refine blk_put (cs := #[.int .i64 0, .int .i64 0, .int .i64 0, .slice none 0 0, .slice none 0 0, .slice none 0 0]) ?_ 0 _ rfl; (with_reducible repeat (first | refine blk_drewN ?_ _ | refine blk_drew ?_ | refine blk_alloc ?_ _)); refine blk_far ?_ NB260_259.out _; (with_reducible repeat (first | refine blk_drewN ?_ _ | refine blk_drew ?_ | refine blk_alloc ?_ _)); exact BK260.out) Try.underlying45 rfl (by kernel_rfl)) rfl ?_
 exact ⟨_, _, _, oE, by (with_reducible repeat (first | apply Kd.R_alloc | apply Kd.R_drewN | apply Kd.R_drew)); exact Kd.R_mono (Kd.R_far (p := ⟨gb260, 5, none⟩) (Kd.R_far (p := ⟨gb260, 4, none⟩) (Kd.R_far (p := ⟨gb260, 3, none⟩) (Kd.R_far (p := ⟨gb260, 2, none⟩) (Kd.R_far (p := ⟨gb260, 1, none⟩) (Kd.R_far (p := ⟨gb260, 0, none⟩) (Kd.R_far (p := ⟨gb259, 5, none⟩) (Kd.R_types (Kd.R_types HO263.out BK259.out (by decide)) BK260.out (by decide)) (fun _ hk => hk.1.2) (.slice Ao16 t267.length co16)) (fun _ hk => hk.2) (.int .i64 a0_0)) (fun _ hk => hk.2) (.int .i64 a0_1)) (fun _ hk => hk.2) (.int .i64 a0_2)) (fun _ hk => hk.2) (.slice Ao10 t261.length co10)) (fun _ hk => hk.2) (.slice Ao13 t264.length co13)) (fun _ hk => hk.2) (.slice Ao16 t267.length co16)) (fun _ hk => trivial), by (with_reducible repeat (first | apply Kd.R_alloc | apply Kd.R_drewN | apply Kd.R_drew)); exact Kd.R_mono (Kd.R_far (p := ⟨gb260, 5, none⟩) (Kd.R_far (p := ⟨gb260, 4, none⟩) (Kd.R_far (p := ⟨gb260, 3, none⟩) (Kd.R_far (p := ⟨gb260, 2, none⟩) (Kd.R_far (p := ⟨gb260, 1, none⟩) (Kd.R_far (p := ⟨gb260, 0, none⟩) (Kd.R_far (p := ⟨gb259, 5, none⟩) (Kd.R_types (Kd.R_types HO266.out BK259.out (by decide)) BK260.out (by decide)) (fun _ hk => hk.1.2) (.slice Ao16 t267.length co16)) (fun _ hk => hk.2) (.int .i64 a0_0)) (fun _ hk => hk.2) (.int .i64 a0_1)) (fun _ hk => hk.2) (.int .i64 a0_2)) (fun _ hk => hk.2) (.slice Ao10 t261.length co10)) (fun _ hk => hk.2) (.slice Ao13 t264.length co13)) (fun _ hk => hk.2) (.slice Ao16 t267.length co16)) (fun _ hk => trivial), by (with_reducible repeat (first | apply Kd.R_alloc | apply Kd.R_drewN | apply Kd.R_drew)); exact Kd.R_mono (Kd.R_far (p := ⟨gb260, 5, none⟩) (Kd.R_far (p := ⟨gb260, 4, none⟩) (Kd.R_far (p := ⟨gb260, 3, none⟩) (Kd.R_far (p := ⟨gb260, 2, none⟩) (Kd.R_far (p := ⟨gb260, 1, none⟩) (Kd.R_far (p := ⟨gb260, 0, none⟩) (Kd.R_far (p := ⟨gb259, 5, none⟩) (Kd.R_types (Kd.R_types HO269.out BK259.out (by decide)) BK260.out (by decide)) (fun _ hk => hk.1.2) (.slice Ao16 t267.length co16)) (fun _ hk => hk.2) (.int .i64 a0_0)) (fun _ hk => hk.2) (.int .i64 a0_1)) (fun _ hk => hk.2) (.int .i64 a0_2)) (fun _ hk => hk.2) (.slice Ao10 t261.length co10)) (fun _ hk => hk.2) (.slice Ao13 t264.length co13)) (fun _ hk => hk.2) (.slice Ao16 t267.length co16)) (fun _ hk => trivial), oB⟩

/-! ### impl_InodeAt: function 52 -/
def impl_InodeAt.f (k : Nat) (l0_0 : List (S45)) (a0_1 : Int) (a1 : Int) : Option (Int × Int × Int × List Int × (List (S83)) × (List (S85)) × Bool) := (impl_placeOf.f k l0_0 a0_1 a1).bind fun t272 => (if t272 < 0 then (some (0, 0, 0, ([] : List Int), ([] : List (S83)), ([] : List (S85)), false)) else (if 0 ≤ t272 then (if t272 < (l0_0.length : Int) then ((impl_copyInode.f ((rd_T45 l0_0 t272).f0) ((rd_T45 l0_0 t272).f1) ((rd_T45 l0_0 t272).f2) ((rd_T45 l0_0 t272).f3) ((rd_T45 l0_0 t272).f4) ((rd_T45 l0_0 t272).f5)).bind fun bt274 => (some (bt274.1, bt274.2.1, bt274.2.2.1, bt274.2.2.2.1, bt274.2.2.2.2.1, bt274.2.2.2.2.2, true))) else (none)) else (none)))
set_option maxHeartbeats 8000000 in
set_option maxRecDepth 100000 in
theorem impl_InodeAt.calls (k : Nat) (A0_0 : Option Addr) (c0_0 : Nat) (l0_0 : List (S45)) (a0_1 : Int) (a1 : Int) (r1 : Int) (r2 : Int) (r3 : Int) (r4 : List Int) (r5 : List (S83)) (r6 : List (S85)) (r7 : Bool) (w : World) (hr0_0 : Kd.C k45 w A0_0 l0_0.length l0_0) (hc0_0 : l0_0.length ≤ c0_0) (h : impl_InodeAt.f k l0_0 a0_1 a1 = some (r1, r2, r3, r4, r5, r6, r7)) :
  Calls Try.prog 52 #[.agg #[.slice A0_0 l0_0.length c0_0, .int .i64 a0_1], .int .i64 a1] w fun e w' => ∃ v3_ v4_ v5_ : Value, e = .returned (.tuple #[.agg #[.int .i64 r1, .int .i64 r2, .int .i64 r3, v3_, v4_, v5_], .bool r7]) ∧ Kd.R (Kd.int .u8) 5 w' w.heap.size (fun _ => True) v3_ r4 ∧ Kd.R k83 83 w' w.heap.size (fun _ => True) v4_ r5 ∧ Kd.R k85 85 w' w.heap.size (fun _ => True) v5_ r6 ∧ Below w.heap.size w w' := by
 have hu30 := Try.underlying30
 have hu45 := Try.underlying45
 have HR0_0 := Aside0.mk hr0_0
 have HC0_0 := Aside0.mk hc0_0
 clear hr0_0 hc0_0
 have HB := Aside0.mk (Below.refl w.heap.size w)
 unfold impl_InodeAt.f at h
 have H := h
 clear h
 replace H := bA H
 obtain ⟨t272, A3, H⟩ := H
 try dsimp only at H
 replace H := itD H
 rcases H with ⟨c4b0, H⟩ | ⟨c4b0, H⟩
 ·simp only [Option.some.injEq, Prod.mk.injEq] at H
  obtain ⟨rfl, rfl, rfl, rfl, rfl, rfl, rfl⟩ := H
  go_enter Try.func52, Try.ntmps52
  go_wp2_with (first | ((with_reducible refine gate_dst (N := 2) rfl ?_); refine bx_ 2 #[.slice A0_0 l0_0.length c0_0, .int .i64 a0_1] 30 ?_; intro gb270 hg w5 hbox hb; have BK270 := Aside0.mk (hbox); have GW270 := gs_ hg; have GE270 := gs_ hg; replace HB := Aside0.mk (below_step oB hb); clear hb hbox hg) | ((with_reducible refine gate_dst (N := 4) rfl ?_); refine bx_ 4 #[.int .i64 0, .int .i64 0, .int .i64 0, .slice none 0 0, .slice none 0 0, .slice none 0 0] 45 ?_; intro gb271 hg w6 hbox hb; have BK271 := Aside0.mk (hbox); have GW271 := gs_ hg; have GE271 := gs_ hg; have NB270_271 := nl_ hg BK270; have NB271_270 := nr_ hg BK270; replace BK270 := kb_ BK270 hb; replace HB := Aside0.mk (below_step oB hb); clear hb hbox hg; have hnb7 := NB270_271.out; have hnc7 := NB271_270.out; obtain ⟨⟨_, _⟩, _, _⟩ := z2 BK270) | ((with_reducible refine gate_callee (f := 103) rfl ?_); refine gl_ 9 Try.func103 (impl_placeOf.calls k _ _ l0_0 a0_1 a1 t272 _ (kC HR0_0) HC0_0.out A3.out) ?_; rintro e w9 ⟨rfl, hb⟩; refine ⟨_, rfl, ?_⟩; replace BK270 := kb_ BK270 hb; replace BK271 := kb_ BK271 hb; replace HB := Aside0.mk (below_step oB hb); obtain ⟨⟨_, _, _, _, _, _⟩, _, _, _, _, _, _⟩ := z6 BK271))
  refine bodyPost_ret (results_ct rfl _ _ gb271 45 #[.int .i64 0, .int .i64 0, .int .i64 0, .slice none 0 0, .slice none 0 0, .slice none 0 0] (0, 0) _ rfl (by (with_reducible repeat (first | refine blk_drewN ?_ _ | refine blk_drew ?_ | refine blk_alloc ?_ _)); refine blk_put (cs := #[.int .i64 0, .int .i64 0, .int .i64 0, .slice none 0 0, .slice none 0 0, .slice none 0 0]) ?_ 5 _ rfl; (with_reducible repeat (first | refine blk_drewN ?_ _ | refine blk_drew ?_ | refine blk_alloc ?_ _)); refine blk_put (cs := #[.int .i64 0, .int .i64 0, .int .i64 0, .slice none 0 0, .slice none 0 0, .slice none 0 0]) ?_ 4 _ rfl; (with_reducible repeat (first | refine blk_drewN ?_ _ | refine blk_drew ?_ | refine blk_alloc ?_ _)); refine blk_put (cs := #[.int .i64 0, .int .i64 0, .int .i64 0, .slice none 0 0, .slice none 0 0, .slice none 0 0]) ?_ 3 _ rfl; (with_reducible repeat (first | refine blk_drewN ?_ _ | refine blk_drew ?_ | refine blk_alloc ?_ _)); refine blk_put (cs := #[.int .i64 0, .int .i64 0, .int .i64 0, .slice none 0 0, .slice none 0 0, .slice none 0 0]) ?_ 2 _ rfl; (with_reducible repeat (first | refine blk_drewN ?_ _ | refine blk_drew ?_ | refine blk_alloc ?_ _)); refine blk_put (cs := #[.int .i64 0, .int .i64 0, .int .i64 0, .slice none 0 0, .slice none 0 0, .slice none 0 0]) ?_ 1 _ rfl; (with_reducible repeat (first | refine blk_drewN ?_ _ | refine blk_drew ?_ | refine blk_alloc ?_ _)); refine blk_put (cs := #[.int .i64 0, .int .i64 0, .int .i64 0, .slice none 0 0, .slice none 0 0, .slice none 0 0]) ?_ 0 _ rfl; (with_reducible repeat (first | refine blk_drewN ?_ _ | refine blk_drew ?_ | refine blk_alloc ?_ _)); exact BK271.out) Try.underlying45 rfl (by kernel_rfl)) rfl ?_
  exact ⟨_, _, _, oE, by first | exact Kd.R_nil _ _ _ _ _ | exact Kd.N_nil _ _ _ _ _ | exact Kd.V_nil _ _ _ _ _ | exact Kd.Q_nil _ _ _ _ _ | exact Kd.S_nil _ _ _ _ _, by first | exact Kd.R_nil _ _ _ _ _ | exact Kd.N_nil _ _ _ _ _ | exact Kd.V_nil _ _ _ _ _ | exact Kd.Q_nil _ _ _ _ _ | exact Kd.S_nil _ _ _ _ _, by first | exact Kd.R_nil _ _ _ _ _ | exact Kd.N_nil _ _ _ _ _ | exact Kd.V_nil _ _ _ _ _ | exact Kd.Q_nil _ _ _ _ _ | exact Kd.S_nil _ _ _ _ _, oB⟩
 ·replace H := itD H
  rcases H with ⟨c11b0, H⟩ | ⟨c11b0, H⟩
  ·replace H := itD H
   rcases H with ⟨c12b0, H⟩ | ⟨c12b0, H⟩
   ·replace H := bA H
    obtain ⟨⟨t274, t275, t276, t277, t280, t283⟩, A13, H⟩ := H
    try dsimp only at H
    simp only [Option.some.injEq, Prod.mk.injEq] at H
    obtain ⟨rfl, rfl, rfl, rfl, rfl, rfl, rfl⟩ := H
    go_enter Try.func52, Try.ntmps52
    go_wp2_with (first | ((with_reducible refine gate_dst (N := 2) rfl ?_); refine bx_ 2 #[.slice A0_0 l0_0.length c0_0, .int .i64 a0_1] 30 ?_; intro gb270 hg w14 hbox hb; have BK270 := Aside0.mk (hbox); have GW270 := gs_ hg; have GE270 := gs_ hg; replace HB := Aside0.mk (below_step oB hb); clear hb hbox hg) | ((with_reducible refine gate_dst (N := 4) rfl ?_); refine bx_ 4 #[.int .i64 0, .int .i64 0, .int .i64 0, .slice none 0 0, .slice none 0 0, .slice none 0 0] 45 ?_; intro gb271 hg w15 hbox hb; have BK271 := Aside0.mk (hbox); have GW271 := gs_ hg; have GE271 := gs_ hg; have NB270_271 := nl_ hg BK270; have NB271_270 := nr_ hg BK270; replace BK270 := kb_ BK270 hb; replace HB := Aside0.mk (below_step oB hb); clear hb hbox hg; have hnb16 := NB270_271.out; have hnc16 := NB271_270.out; obtain ⟨⟨_, _⟩, _, _⟩ := z2 BK270) | ((with_reducible refine gate_callee (f := 103) rfl ?_); refine gl_ 9 Try.func103 (impl_placeOf.calls k _ _ l0_0 a0_1 a1 t272 _ (kC HR0_0) HC0_0.out A3.out) ?_; rintro e w18 ⟨rfl, hb⟩; refine ⟨_, rfl, ?_⟩; replace BK270 := kb_ BK270 hb; replace BK271 := kb_ BK271 hb; replace HB := Aside0.mk (below_step oB hb); obtain ⟨⟨_, _⟩, _, _⟩ := z2 BK270; have p273 : (0 ≤ (t272 : Int)) = True := oT; have q273 : (t272 < (l0_0.length : Int)) = True := oT; obtain ⟨ad273, A273_3, c273_3, A273_4, c273_4, A273_5, c273_5, e273, hx273_0, hx273_1, hx273_2, hx273_3, hx273_4, hx273_5, hl273_3, hi273_3, hl273_4, hi273_4, hl273_5, hi273_5⟩ := at_T45 HR0_0.out t272 oa oa; cases e273; replace hx273_0 := cB HB hx273_0; replace hx273_1 := cB HB hx273_1; replace hx273_2 := cB HB hx273_2; replace hx273_3 := cB HB hx273_3; replace hx273_4 := cB HB hx273_4; replace hx273_5 := cB HB hx273_5; have HR273_3 := Aside0.mk hi273_3; have HC273_3 := Aside0.mk hl273_3; clear hi273_3 hl273_3; have HR273_4 := Aside0.mk hi273_4; have HC273_4 := Aside0.mk hl273_4; clear hi273_4 hl273_4; have HR273_5 := Aside0.mk hi273_5; have HC273_5 := Aside0.mk hl273_5; clear hi273_5 hl273_5) | ((with_reducible refine gate_callee (f := 104) rfl ?_); refine gl_ 18 Try.func104 (impl_copyInode.calls ((rd_T45 l0_0 t272).f0) ((rd_T45 l0_0 t272).f1) ((rd_T45 l0_0 t272).f2) _ _ ((rd_T45 l0_0 t272).f3) _ _ ((rd_T45 l0_0 t272).f4) _ _ ((rd_T45 l0_0 t272).f5) t274 t275 t276 t277 t280 t283 _ (kC HR273_3) HC273_3.out (kC HR273_4) HC273_4.out (kC HR273_5) HC273_5.out A13.out) ?_; rintro e w20 ⟨v278, v281, v284, rfl, ho0, ho1, ho2, hb⟩; refine ⟨_, rfl, ?_⟩; have HO279 := Aside0.mk (Kd.R_lower ho0 (below_size oB)); have HO282 := Aside0.mk (Kd.R_lower ho1 (below_size oB)); have HO285 := Aside0.mk (Kd.R_lower ho2 (below_size oB)); replace BK270 := kb_ BK270 hb; replace BK271 := kb_ BK271 hb; replace HB := Aside0.mk (below_step oB hb); (try clear ho1); (try clear ho2); obtain ⟨⟨_, _, _, _, _, _⟩, _, _, _, _, _, _⟩ := z6 BK271; obtain ⟨Ao22, co22, eo22⟩ := Kd.R_slice HO279.out; subst eo22; obtain ⟨Ao23, co23, eo23⟩ := Kd.R_slice HO282.out; subst eo23; obtain ⟨Ao24, co24, eo24⟩ := Kd.R_slice HO285.out; subst eo24))
    refine bodyPost_ret (results_ct rfl _ _ gb271 45 #[.int .i64 t274, .int .i64 t275, .int .i64 t276, .slice Ao22 t277.length co22, .slice Ao23 t280.length co23, .slice Ao24 t283.length co24] (0, 0) _ rfl (by (with_reducible repeat (first | refine blk_drewN ?_ _ | refine blk_drew ?_ | refine blk_alloc ?_ _)); refine blk_put (cs := #[.int .i64 t274, .int .i64 t275, .int .i64 t276, .slice Ao22 t277.length co22, .slice Ao23 t280.length co23, .slice none 0 0]) ?_ 5 _ rfl; (with_reducible repeat (first | refine blk_drewN ?_ _ | refine blk_drew ?_ | refine blk_alloc ?_ _)); refine blk_put (cs := #[.int .i64 t274, .int .i64 t275, .int .i64 t276, .slice Ao22 t277.length co22, .slice none 0 0, .slice none 0 0]) ?_ 4 _ rfl; (with_reducible repeat (first | refine blk_drewN ?_ _ | refine blk_drew ?_ | refine blk_alloc ?_ _)); refine blk_put (cs := #[.int .i64 t274, .int .i64 t275, .int .i64 t276, .slice none 0 0, .slice none 0 0, .slice none 0 0]) ?_ 3 _ rfl; (with_reducible repeat (first | refine blk_drewN ?_ _ | refine blk_drew ?_ | refine blk_alloc ?_ _)); refine blk_put (cs := #[.int .i64 t274, .int .i64 t275, .int .i64 0, .slice none 0 0, .slice none 0 0, .slice none 0 0]) ?_ 2 _ rfl; (with_reducible repeat (first | refine blk_drewN ?_ _ | refine blk_drew ?_ | refine blk_alloc ?_ _)); refine blk_put (cs := #[.int .i64 t274, .int .i64 0, .int .i64 0, .slice none 0 0, .slice none 0 0, .slice none 0 0]) ?_ 1 _ rfl; (with_reducible repeat (first | refine blk_drewN ?_ _ | refine blk_drew ?_ | refine blk_alloc ?_ _)); refine blk_put (cs := #[.int .i64 0, .int .i64 0, .int .i64 0, .slice none 0 0, .slice none 0 0, .slice none 0 0]) ?_ 0 _ rfl; (with_reducible repeat (first | refine blk_drewN ?_ _ | refine blk_drew ?_ | refine blk_alloc ?_ _)); exact BK271.out) Try.underlying45 rfl (by kernel_rfl)) rfl ?_
    exact ⟨_, _, _, oE, by (with_reducible repeat (first | apply Kd.R_alloc | apply Kd.R_drewN | apply Kd.R_drew)); exact Kd.R_mono (Kd.R_far (p := ⟨gb271, 5, none⟩) (Kd.R_far (p := ⟨gb271, 4, none⟩) (Kd.R_far (p := ⟨gb271, 3, none⟩) (Kd.R_far (p := ⟨gb271, 2, none⟩) (Kd.R_far (p := ⟨gb271, 1, none⟩) (Kd.R_far (p := ⟨gb271, 0, none⟩) (Kd.R_types HO279.out BK271.out (by decide)) (fun _ hk => hk.2) (.int .i64 t274)) (fun _ hk => hk.2) (.int .i64 t275)) (fun _ hk => hk.2) (.int .i64 t276)) (fun _ hk => hk.2) (.slice Ao22 t277.length co22)) (fun _ hk => hk.2) (.slice Ao23 t280.length co23)) (fun _ hk => hk.2) (.slice Ao24 t283.length co24)) (fun _ hk => trivial), by (with_reducible repeat (first | apply Kd.R_alloc | apply Kd.R_drewN | apply Kd.R_drew)); exact Kd.R_mono (Kd.R_far (p := ⟨gb271, 5, none⟩) (Kd.R_far (p := ⟨gb271, 4, none⟩) (Kd.R_far (p := ⟨gb271, 3, none⟩) (Kd.R_far (p := ⟨gb271, 2, none⟩) (Kd.R_far (p := ⟨gb271, 1, none⟩) (Kd.R_far (p := ⟨gb271, 0, none⟩) (Kd.R_types HO282.out BK271.out (by decide)) (fun _ hk => hk.2) (.int .i64 t274)) (fun _ hk => hk.2) (.int .i64 t275)) (fun _ hk => hk.2) (.int .i64 t276)) (fun _ hk => hk.2) (.slice Ao22 t277.length co22)) (fun _ hk => hk.2) (.slice Ao23 t280.length co23)) (fun _ hk => hk.2) (.slice Ao24 t283.length co24)) (fun _ hk => trivial), by (with_reducible repeat (first | apply Kd.R_alloc | apply Kd.R_drewN | apply Kd.R_drew)); exact Kd.R_mono (Kd.R_far (p := ⟨gb271, 5, none⟩) (Kd.R_far (p := ⟨gb271, 4, none⟩) (Kd.R_far (p := ⟨gb271, 3, none⟩) (Kd.R_far (p := ⟨gb271, 2, none⟩) (Kd.R_far (p := ⟨gb271, 1, none⟩) (Kd.R_far (p := ⟨gb271, 0, none⟩) (Kd.R_types HO285.out BK271.out (by decide)) (fun _ hk => hk.2) (.int .i64 t274)) (fun _ hk => hk.2) (.int .i64 t275)) (fun _ hk => hk.2) (.int .i64 t276)) (fun _ hk => hk.2) (.slice Ao22 t277.length co22)) (fun _ hk => hk.2) (.slice Ao23 t280.length co23)) (fun _ hk => hk.2) (.slice Ao24 t283.length co24)) (fun _ hk => trivial), oB⟩
   ·cases H
  ·cases H

end Go.Proofs.Ytkknehgaebhbeaa.P
