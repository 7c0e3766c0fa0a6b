-- By this session's own program (wip/myprint.py) out of the translation; Lean checks it.
import Derived.Test.YtkcfmbggdkkfeaaGreatDoorPx0
import Derived.Test.YtkcfmbggdkkfeaaGreatDoorPx2
import Derived.Test.YtkcfmbggdkkfeaaGreatDoorPx3
import Derived.Test.YtkcfmbggdkkfeaaGreatDoorPx6
namespace Go.Proofs.YtkcfmbggdkkfeaaGreatDoor.P
open Go.RowKit Go.Proofs.YtkcfmbggdkkfeaaGreatDoorW.PrintWords Go.Proofs.YtkcfmbggdkkfeaaGreatDoorW.PrintLast Go.Proofs.YtkcfmbggdkkfeaaGreatDoorW.PrintMore
attribute [local go_sem] max2_int min2_int max_two min_two max_three min_three max_four min_four   -- for this text's walks alone
set_option linter.unusedVariables false
set_option linter.unusedSimpArgs false

/-! ### impl_Below: function 62 -/
def impl_Below.f (k : Nat) (a0 : ByteArray) (a1 : ByteArray) : Option (Bool) := (impl_SplitPath.f k a0).bind fun bt520 => ((impl_SplitPath.f k a1).bind fun bt524 => (if bt520.2 = true then (if bt524.2 = true then (if (bt520.1.length : Int) ≤ (bt524.1.length : Int) then (if 0 ≤ (bt520.1.length : Int) then ((slices_Equal_string_string.f k bt520.1 (bt524.1.take ((bt520.1.length : Int) : Int).toNat)).bind fun t532 => (some t532)) else (none)) else (some false)) else (some false)) else (some false)))
set_option maxHeartbeats 8000000 in
set_option maxRecDepth 100000 in
theorem impl_Below.calls (k : Nat) (a0 : ByteArray) (a1 : ByteArray) (r : Bool) (w : World) (h : impl_Below.f k a0 a1 = some r) (hG : GOk w := by exact gk_ oB (by first | (with_reducible assumption) | assumption)) :
  Calls Tryz.prog 62 #[.string a0, .string a1] w fun e w' => e = .returned (.bool r) ∧ Below w.heap.size w w' := by
 have HG := Aside0.mk hG
 clear hG
 have HB := Aside0.mk (Below.refl w.heap.size w)
 unfold impl_Below.f at h
 have H := h
 clear h
 replace H := bA H
 obtain ⟨⟨t520, t521⟩, A3, H⟩ := H
 try dsimp only at H
 replace H := bA H
 obtain ⟨⟨t524, t525⟩, A4, H⟩ := H
 try dsimp only at H
 replace H := itB H
 rcases H with ⟨rfl, H⟩ | ⟨rfl, H⟩
 ·replace H := itB H
  rcases H with ⟨rfl, H⟩ | ⟨rfl, H⟩
  ·by_cases c7 : (t520.length : Int) ≤ (t524.length : Int)
   ·rw [if_pos c7] at H
    have c7b0 : decide ((t520.length : Int) ≤ (t524.length : Int)) = true := decide_eq_true c7
    have c7b1 : decide (t520.length ≤ t524.length) = true := decide_eq_true (Int.ofNat_le.mp c7)
    clear c7
    by_cases c8 : 0 ≤ (t520.length : Int)
    ·rw [if_pos c8] at H
     have c8b0 := eq_true c8
     have c8b1 : decide (0 ≤ (t520.length : Int)) = true := decide_eq_true c8
     clear c8
     have c9b0 := eq_true (oa : (t520.length : Int) ≤ (t524.length : Int))
     obtain ⟨y528, hy528⟩ : ∃ y_ : List ByteArray, y_ = (t524.take ((t520.length : Int) : Int).toNat) := ⟨_, rfl⟩
     replace H : ((slices_Equal_string_string.f k t520 y528).bind fun t532 => (some t532)) = some r := by first | (rw [hy528]; with_reducible exact H) | (have H2_ := (Option.bind_some _ _).symm.trans H; rw [hy528]; with_reducible exact H2_) | (have H2_ := (Option.bind_some _ _).symm.trans H; with_reducible exact H2_) | with_reducible exact H | (rw [hy528]; exact H) | exact H
     have Ny528 := Aside0.mk hy528
     clear hy528
     replace H := bA H
     obtain ⟨t532, A10, H⟩ := H
     try dsimp only at H
     obtain rfl := Option.some.inj H
     go_enter Tryz.func62, Tryz.ntmps62
     go_wp2_with (first | ((with_reducible refine gate_callee (f := 16) rfl ?_); refine gl_ 11 Tryz.func16 (impl_SplitPath.calls k a0 t520 true _ A3.out) ?_; rintro e w11 ⟨v522, rfl, ho0, hb⟩; refine ⟨_, rfl, ?_⟩; have HO523 := Aside0.mk (Kd.Q_lower ho0 (below_size oB)); replace HB := Aside0.mk (below_step oB hb)) | ((with_reducible refine gate_callee (f := 16) rfl ?_); refine gl_ 16 Tryz.func16 (impl_SplitPath.calls k a1 t524 true _ A4.out) ?_; rintro e w12 ⟨v526, rfl, ho0, hb⟩; refine ⟨_, rfl, ?_⟩; have HO527 := Aside0.mk (Kd.Q_lower (Kd.Q_new' ho0 (ltQ0 HO523)) (below_size oB)); replace HO523 := Aside0.mk (Kd.Q_elder' (nQ0 HO523) (Kd.Q_base ho0) hb); replace HB := Aside0.mk (below_step oB hb); obtain ⟨Ao13, co13, eo13, _⟩ := Kd.Q_slice HO523.out; subst eo13; obtain ⟨Ao14, co14, eo14, _⟩ := Kd.Q_slice HO527.out; subst eo14; have q15 : ((t520.length : Int) : Int) ≤ ((t524.length : Int) : Int) := oa; obtain ⟨i015, hi015, _, hsz15, _⟩ := info_parts info9; have hroom15 : t524.length ≤ co14 := (Kd.Q_reads' HO527.out).2.1; have hC15 : Kd.C Kd.string _ Ao14 t524.length t524 := (Kd.Q_reads' HO527.out).2.2; have hcut15 := cut_to (P := Tryz.prog) 31 9 .i64 Tryz.underlying31 hi015 Ao14 t524.length co14 (t520.length : Int) oa q15 hroom15; have hr15 := Kd.C_take (m := ((t520.length : Int) : Int).toNat) hC15 (by omega); have hy15 : y528.length = ((t520.length : Int) : Int).toNat := (by rw [Ny528.out, List.length_take]; omega); rw [← Ny528.out] at hr15; rw [← hy15] at hcut15; have HR531 := Aside0.mk hr15; have HC531 := Aside0.mk (show y528.length ≤ co14 from by omega); clear hr15 hC15 hroom15 hi015 hsz15; have KY15 := Aside0.mk hy15; clear hy15; have KL15 := Aside0.mk (show ((t520.length : Int) : Int).toNat ≤ t524.length from by omega); replace q15 := eq_true q15) | (go_at_call 87; (with_reducible refine (slices_Equal_string_string.calls k _ _ t520 _ _ y528 t532 _ ?side1 ?side2 ?side3 HC531.out A10.out).mono ?_); (case side1 => repeat (first | exact (Kd.Q_reads' HO523.out).2.2 | (with_reducible refine Kd.C_alloc ?_ _) | (with_reducible refine Kd.C_drewN ?_ _) | (with_reducible refine Kd.C_drew ?_))); (case side2 => exact (Kd.Q_reads' HO523.out).2.1); (case side3 => repeat (first | exact (by repeat (first | (with_reducible exact HR531.out) | (with_reducible refine Kd.C_alloc ?_ _) | (with_reducible refine Kd.C_drewN ?_ _) | (with_reducible refine Kd.C_drew ?_) | exact HR531.out)) | (with_reducible refine Kd.C_alloc ?_ _) | (with_reducible refine Kd.C_drewN ?_ _) | (with_reducible refine Kd.C_drew ?_))); rintro e w' ⟨rfl, ⟨nd, rfl⟩⟩))
     go_ret
     exact ⟨oE, oB⟩
    ·rw [if_neg c8] at H
     exact absurd H (by simp)
   ·rw [if_neg c7] at H
    have c7b0 : decide ((t520.length : Int) ≤ (t524.length : Int)) = false := decide_eq_false c7
    have c7b1 : decide (t520.length ≤ t524.length) = false := decide_eq_false (fun h => c7 (Int.ofNat_le.mpr h))
    clear c7
    obtain rfl := Option.some.inj H
    go_enter Tryz.func62, Tryz.ntmps62
    go_wp2_with (first | ((with_reducible refine gate_callee (f := 16) rfl ?_); refine gl_ 11 Tryz.func16 (impl_SplitPath.calls k a0 t520 true _ A3.out) ?_; rintro e w16 ⟨v522, rfl, ho0, hb⟩; refine ⟨_, rfl, ?_⟩; have HO523 := Aside0.mk (Kd.Q_lower ho0 (below_size oB)); replace HB := Aside0.mk (below_step oB hb)) | ((with_reducible refine gate_callee (f := 16) rfl ?_); refine gl_ 16 Tryz.func16 (impl_SplitPath.calls k a1 t524 true _ A4.out) ?_; rintro e w17 ⟨v526, rfl, ho0, hb⟩; refine ⟨_, rfl, ?_⟩; have HO527 := Aside0.mk (Kd.Q_lower (Kd.Q_new' ho0 (ltQ0 HO523)) (below_size oB)); replace HO523 := Aside0.mk (Kd.Q_elder' (nQ0 HO523) (Kd.Q_base ho0) hb); replace HB := Aside0.mk (below_step oB hb); obtain ⟨Ao18, co18, eo18, _⟩ := Kd.Q_slice HO523.out; subst eo18; obtain ⟨Ao19, co19, eo19, _⟩ := Kd.Q_slice HO527.out; subst eo19))
    go_ret
    exact ⟨oE, oB⟩
  ·obtain rfl := Option.some.inj H
   go_enter Tryz.func62, Tryz.ntmps62
   go_wp2_with (first | ((with_reducible refine gate_callee (f := 16) rfl ?_); refine gl_ 11 Tryz.func16 (impl_SplitPath.calls k a0 t520 true _ A3.out) ?_; rintro e w20 ⟨v522, rfl, ho0, hb⟩; refine ⟨_, rfl, ?_⟩; have HO523 := Aside0.mk (Kd.Q_lower ho0 (below_size oB)); replace HB := Aside0.mk (below_step oB hb)) | ((with_reducible refine gate_callee (f := 16) rfl ?_); refine gl_ 16 Tryz.func16 (impl_SplitPath.calls k a1 t524 false _ A4.out) ?_; rintro e w21 ⟨v526, rfl, ho0, hb⟩; refine ⟨_, rfl, ?_⟩; have HO527 := Aside0.mk (Kd.Q_lower ho0 (below_size oB)); replace HB := Aside0.mk (below_step oB hb)))
   go_ret
   exact ⟨oE, oB⟩
 ·obtain rfl := Option.some.inj H
  go_enter Tryz.func62, Tryz.ntmps62
  go_wp2_with (first | ((with_reducible refine gate_callee (f := 16) rfl ?_); refine gl_ 11 Tryz.func16 (impl_SplitPath.calls k a0 t520 false _ A3.out) ?_; rintro e w22 ⟨v522, rfl, ho0, hb⟩; refine ⟨_, rfl, ?_⟩; have HO523 := Aside0.mk (Kd.Q_lower ho0 (below_size oB)); replace HB := Aside0.mk (below_step oB hb)) | ((with_reducible refine gate_callee (f := 16) rfl ?_); refine gl_ 16 Tryz.func16 (impl_SplitPath.calls k a1 t524 t525 _ A4.out) ?_; rintro e w23 ⟨v526, rfl, ho0, hb⟩; refine ⟨_, rfl, ?_⟩; have HO527 := Aside0.mk (Kd.Q_lower ho0 (below_size oB)); replace HB := Aside0.mk (below_step oB hb)))
  go_ret
  exact ⟨oE, oB⟩

end Go.Proofs.YtkcfmbggdkkfeaaGreatDoor.P
