-- By this session's own program (wip/myprint.py) out of the translation; Lean checks it.
import Derived.Test.YtkcfmbggdkkfeaaGreatDoorPx0
import Derived.Test.YtkcfmbggdkkfeaaGreatDoorPx1
import Derived.Test.YtkcfmbggdkkfeaaGreatDoorPx3
namespace Go.Proofs.YtkcfmbggdkkfeaaGreatDoor.P
open Go.RowKit Go.Proofs.YtkcfmbggdkkfeaaGreatDoorW.PrintWords Go.Proofs.YtkcfmbggdkkfeaaGreatDoorW.PrintLast Go.Proofs.YtkcfmbggdkkfeaaGreatDoorW.PrintMore
attribute [local go_sem] max2_int min2_int max_two min_two max_three min_three max_four min_four   -- for this text's walks alone
set_option linter.unusedVariables false
set_option linter.unusedSimpArgs false

/-! ### impl_attrsOk: function 92 -/
def impl_attrsOk.l0 : Nat → List (S71) → List (S71) → Int → Int → Option (Bool)
 | 0, _, _, _, _ => none
 | k + 1, x0, x5, x6, x7 => if x7 < x6 then (if 0 ≤ x7 then (if x7 < (x5.length : Int) then ((impl_NameOk.f k ((rd_T71 x5 x7).f0)).bind fun t190 => (if t190 = true then ((impl_from.f (((rd_T71 x5 x7).f1).size : Int) 1 16).bind fun t191 => (if t191 = true then (if x7 > 0 then (if 0 ≤ (wrap64 (x7 - 1)) then (if (wrap64 (x7 - 1)) < (x0.length : Int) then (if ((Op.bytesLess (((rd_T71 x0 (wrap64 (x7 - 1))).f0).toList) (((rd_T71 x5 x7).f0).toList)) = true) then (impl_attrsOk.l0 k x0 x5 x6 (wrap64 (x7 + 1))) else (some false)) else (none)) else (none)) else (impl_attrsOk.l0 k x0 x5 x6 (wrap64 (x7 + 1)))) else (some false))) else (some false))) else (none)) else (none)) else (some (decide ((x0.length : Int) ≤ 4)))
def impl_attrsOk.f (k : Nat) (l0 : List (S71)) : Option (Bool) := impl_attrsOk.l0 k l0 l0 (l0.length : Int) 0
set_option maxHeartbeats 8000000 in
set_option maxRecDepth 100000 in
theorem impl_attrsOk.calls (k : Nat) (A0 : Option Addr) (c0 : Nat) (l0 : List (S71)) (r : Bool) (w : World) (hr0 : Kd.C k71 w A0 l0.length l0) (hc0 : l0.length ≤ c0) (h : impl_attrsOk.f k l0 = some r) :
  Calls Tryz.prog 92 #[.slice A0 l0.length c0] w fun e w' => e = .returned (.bool r) ∧ Below w.heap.size w w' := by
 have hu71 := Tryz.underlying71
 have HR0 := Aside0.mk hr0
 have HC0 := Aside0.mk hc0
 clear hr0 hc0
 have HB := Aside0.mk (Below.refl w.heap.size w)
 unfold impl_attrsOk.f at h
 have H := h
 clear h
 have H' := Aside0.mk H
 clear H
 go_enter Tryz.func92, Tryz.ntmps92
 go_wp2
 repeat (go_quiet (fail); try go_wp2)
 go_loopg [7] k (fun kq v7 w' => ∃ (x7_1 : Int), v7 = .int .i64 x7_1 ∧ Aside0 (impl_attrsOk.l0 kq l0 l0 (l0.length : Int) x7_1 = some r) ∧ Aside0 (kq ≤ k) ∧ Aside0 (Below w.heap.size w w'))
 case atStart => exact ⟨(0), oS, H', ⟨Nat.le_refl _⟩, ⟨oB⟩⟩
 case round =>
  clear H'
  obtain ⟨x7_1, rfl, HA, HK1, HB⟩ := hrel
  cases gk with
  | zero => exact absurd HA.out (by simp [impl_attrsOk.l0])
  | succ k1 =>
   have H := HA.out
   clear HA
   simp only [impl_attrsOk.l0] at H
   replace H := itD H
   rcases H with ⟨c2b0, H⟩ | ⟨c2b0, H⟩
   ·replace H := itD H
    rcases H with ⟨c3b0, H⟩ | ⟨c3b0, H⟩
    ·replace H := itD H
     rcases H with ⟨c4b0, H⟩ | ⟨c4b0, H⟩
     ·replace H := bA H
      obtain ⟨t190, A5, H⟩ := H
      try dsimp only at H
      replace H := itB H
      rcases H with ⟨rfl, H⟩ | ⟨rfl, H⟩
      ·replace H := bA H
       obtain ⟨t191, A7, H⟩ := H
       try dsimp only at H
       replace H := itB H
       rcases H with ⟨rfl, H⟩ | ⟨rfl, H⟩
       ·replace H := itG H
        rcases H with ⟨c9b0, H⟩ | ⟨c9b0, H⟩
        ·obtain ⟨ji10, hji10⟩ : ∃ j_ : Int, (wrap64 (x7_1 - 1)) = j_ := ⟨_, rfl⟩
         replace H : (if 0 ≤ (ji10) then (if (ji10) < (l0.length : Int) then (if ((Op.bytesLess (((rd_T71 l0 (ji10)).f0).toList) (((rd_T71 l0 x7_1).f0).toList)) = true) then (impl_attrsOk.l0 k1 l0 l0 (l0.length : Int) (wrap64 (x7_1 + 1))) else (some false)) else (none)) else (none)) = some r := by first | (rw [hji10] at H; exact H) | (simp only [hji10] at H ⊢; exact H)
         (try rw [hji10] at A5)
         (try rw [hji10] at A7)
         have hji10w : (IntKind.i64.wrap (x7_1 - 1)) = ji10 := (i64_w _).trans hji10
         replace H := itD H
         rcases H with ⟨c11b0, H⟩ | ⟨c11b0, H⟩
         ·replace H := itD H
          rcases H with ⟨c12b0, H⟩ | ⟨c12b0, H⟩
          ·by_cases c13 : ((Op.bytesLess (((rd_T71 l0 (ji10)).f0).toList) (((rd_T71 l0 x7_1).f0).toList)) = true)
           ·rw [if_pos c13] at H
            have c13b0 : (Op.bytesLess (((rd_T71 l0 (ji10)).f0).toList) (((rd_T71 l0 x7_1).f0).toList)) = true := c13
            clear c13
            have H' := Aside0.mk H
            clear H
            have p188 : (0 ≤ (x7_1 : Int)) = True := oT
            have q188 : (x7_1 < (l0.length : Int)) = True := oT
            obtain ⟨ad188, e188, hx188_0, hx188_1⟩ := at_T71 HR0.out x7_1 oa oa
            cases e188
            replace hx188_0 := cB HB hx188_0
            replace hx188_1 := cB HB hx188_1
            go_wp2_with (first | ((with_reducible refine gate_dst (N := 4) rfl ?_); (try (refine gate_guard (by rfl) ?_; dsimp only)); refine bx_ 4 #[.string (⟨#[]⟩ : ByteArray), .string (⟨#[]⟩ : ByteArray)] 71 ?_; intro gb189 hg w14 hbox hb; have BK189 := Aside0.mk (hbox); have GW189 := gs_ hg; replace HB := Aside0.mk (below_step oB hb); clear hb hbox hg; obtain ⟨⟨_, _⟩, _, _⟩ := z2 BK189) | (go_at_call 52; (with_reducible refine (impl_NameOk.calls k1 ((rd_T71 l0 x7_1).f0) true _ A5.out).mono ?_); rintro e w' ⟨rfl, ⟨nd, rfl⟩⟩) | (go_at_call 47; (with_reducible refine (impl_from.calls (((rd_T71 l0 x7_1).f1).size : Int) 1 16 true _ A7.out).mono ?_); rintro e w' ⟨rfl, ⟨nd, rfl⟩⟩; have p192 : (0 ≤ ((ji10) : Int)) = True := oT; have q192 : ((ji10) < (l0.length : Int)) = True := oT; obtain ⟨ad192, e192, hx192_0, hx192_1⟩ := at_T71 HR0.out (ji10) oa oa; obtain rfl : ad188 = ad192 := (by injection e192); have hn192_0 : ad188.block ≠ gb189 := cn_ hx192_0 GW189; have hn192_1 : ad188.block ≠ gb189 := cn_ hx192_0 GW189; replace hx192_0 := cB HB hx192_0; replace hx192_1 := cB HB hx192_1; replace hx192_0 := cf_ 0 (.string ((rd_T71 l0 x7_1).f0)) hn192_0 hx192_0; replace hx192_1 := cf_ 0 (.string ((rd_T71 l0 x7_1).f0)) hn192_0 hx192_1; replace hx192_0 := cf_ 1 (.string ((rd_T71 l0 x7_1).f1)) hn192_1 hx192_0; replace hx192_1 := cf_ 1 (.string ((rd_T71 l0 x7_1).f1)) hn192_1 hx192_1; (try have hy192_0 := fun (n_ : Nat) => (show ((((w14.drewN n_).setCell ⟨gb189, 0, none⟩ (.string ((rd_T71 l0 x7_1).f0))).setCell ⟨gb189, 1, none⟩ (.string ((rd_T71 l0 x7_1).f1)))).cell? _ = some _ from hx192_0)); (try have hy192_1 := fun (n_ : Nat) => (show ((((w14.drewN n_).setCell ⟨gb189, 0, none⟩ (.string ((rd_T71 l0 x7_1).f0))).setCell ⟨gb189, 1, none⟩ (.string ((rd_T71 l0 x7_1).f1)))).cell? _ = some _ from hx192_1)); clear hn192_0; clear hn192_1))
            try (have p192 : 0 ≤ ((ji10) : Int) := oa; have q192 : (ji10) < (l0.length : Int) := oa; obtain ⟨ad192, e192, hx192_0, hx192_1⟩ := at_T71 HR0.out (ji10) p192 q192; obtain rfl : ad188 = ad192 := (by injection e192); have hn192_0 : ad188.block ≠ gb189 := cn_ hx192_0 GW189; have hn192_1 : ad188.block ≠ gb189 := cn_ hx192_0 GW189; replace hx192_0 := cB HB hx192_0; replace hx192_1 := cB HB hx192_1; replace hx192_0 := cf_ 0 (.string ((rd_T71 l0 x7_1).f0)) hn192_0 hx192_0; replace hx192_1 := cf_ 0 (.string ((rd_T71 l0 x7_1).f0)) hn192_0 hx192_1; replace hx192_0 := cf_ 1 (.string ((rd_T71 l0 x7_1).f1)) hn192_1 hx192_0; replace hx192_1 := cf_ 1 (.string ((rd_T71 l0 x7_1).f1)) hn192_1 hx192_1; (try have hy192_0 := fun (n_ : Nat) => (show ((((w14.drewN n_).setCell ⟨gb189, 0, none⟩ (.string ((rd_T71 l0 x7_1).f0))).setCell ⟨gb189, 1, none⟩ (.string ((rd_T71 l0 x7_1).f1)))).cell? _ = some _ from hx192_0)); (try have hy192_1 := fun (n_ : Nat) => (show ((((w14.drewN n_).setCell ⟨gb189, 0, none⟩ (.string ((rd_T71 l0 x7_1).f0))).setCell ⟨gb189, 1, none⟩ (.string ((rd_T71 l0 x7_1).f1)))).cell? _ = some _ from hx192_1)); clear hn192_0; clear hn192_1; replace p192 := eq_true p192; replace q192 := eq_true q192)
            repeat (go_quiet (first | (go_at_call 52; (with_reducible refine (impl_NameOk.calls k1 ((rd_T71 l0 x7_1).f0) true _ A5.out).mono ?_); rintro e w' ⟨rfl, ⟨nd, rfl⟩⟩; exact oQ) | (go_at_call 47; (with_reducible refine (impl_from.calls (((rd_T71 l0 x7_1).f1).size : Int) 1 16 true _ A7.out).mono ?_); rintro e w' ⟨rfl, ⟨nd, rfl⟩⟩; exact oQ)); try go_wp2_with (first | ((with_reducible refine gate_dst (N := 4) rfl ?_); (try (refine gate_guard (by rfl) ?_; dsimp only)); refine bx_ 4 #[.string (⟨#[]⟩ : ByteArray), .string (⟨#[]⟩ : ByteArray)] 71 ?_; intro gb189 hg w14 hbox hb; have BK189 := Aside0.mk (hbox); have GW189 := gs_ hg; replace HB := Aside0.mk (below_step oB hb); clear hb hbox hg; obtain ⟨⟨_, _⟩, _, _⟩ := z2 BK189) | (go_at_call 52; (with_reducible refine (impl_NameOk.calls k1 ((rd_T71 l0 x7_1).f0) true _ A5.out).mono ?_); rintro e w' ⟨rfl, ⟨nd, rfl⟩⟩) | (go_at_call 47; (with_reducible refine (impl_from.calls (((rd_T71 l0 x7_1).f1).size : Int) 1 16 true _ A7.out).mono ?_); rintro e w' ⟨rfl, ⟨nd, rfl⟩⟩; have p192 : (0 ≤ ((ji10) : Int)) = True := oT; have q192 : ((ji10) < (l0.length : Int)) = True := oT; obtain ⟨ad192, e192, hx192_0, hx192_1⟩ := at_T71 HR0.out (ji10) oa oa; obtain rfl : ad188 = ad192 := (by injection e192); have hn192_0 : ad188.block ≠ gb189 := cn_ hx192_0 GW189; have hn192_1 : ad188.block ≠ gb189 := cn_ hx192_0 GW189; replace hx192_0 := cB HB hx192_0; replace hx192_1 := cB HB hx192_1; replace hx192_0 := cf_ 0 (.string ((rd_T71 l0 x7_1).f0)) hn192_0 hx192_0; replace hx192_1 := cf_ 0 (.string ((rd_T71 l0 x7_1).f0)) hn192_0 hx192_1; replace hx192_0 := cf_ 1 (.string ((rd_T71 l0 x7_1).f1)) hn192_1 hx192_0; replace hx192_1 := cf_ 1 (.string ((rd_T71 l0 x7_1).f1)) hn192_1 hx192_1; (try have hy192_0 := fun (n_ : Nat) => (show ((((w14.drewN n_).setCell ⟨gb189, 0, none⟩ (.string ((rd_T71 l0 x7_1).f0))).setCell ⟨gb189, 1, none⟩ (.string ((rd_T71 l0 x7_1).f1)))).cell? _ = some _ from hx192_0)); (try have hy192_1 := fun (n_ : Nat) => (show ((((w14.drewN n_).setCell ⟨gb189, 0, none⟩ (.string ((rd_T71 l0 x7_1).f0))).setCell ⟨gb189, 1, none⟩ (.string ((rd_T71 l0 x7_1).f1)))).cell? _ = some _ from hx192_1)); clear hn192_0; clear hn192_1)))
            go_roundg k1
            case measure => have := HK1.out; omega
            case rel => exact ⟨(wrap64 (x7_1 + 1)), oS, H', ⟨by have := HK1.out; omega⟩, ⟨oB⟩⟩
           ·rw [if_neg c13] at H
            have c13b0 : (Op.bytesLess (((rd_T71 l0 (ji10)).f0).toList) (((rd_T71 l0 x7_1).f0).toList)) = false := by simpa using c13
            clear c13
            obtain rfl := Option.some.inj H
            have p188 : (0 ≤ (x7_1 : Int)) = True := oT
            have q188 : (x7_1 < (l0.length : Int)) = True := oT
            obtain ⟨ad188, e188, hx188_0, hx188_1⟩ := at_T71 HR0.out x7_1 oa oa
            cases e188
            replace hx188_0 := cB HB hx188_0
            replace hx188_1 := cB HB hx188_1
            go_wp2_with (first | ((with_reducible refine gate_dst (N := 4) rfl ?_); (try (refine gate_guard (by rfl) ?_; dsimp only)); refine bx_ 4 #[.string (⟨#[]⟩ : ByteArray), .string (⟨#[]⟩ : ByteArray)] 71 ?_; intro gb189 hg w16 hbox hb; have BK189 := Aside0.mk (hbox); have GW189 := gs_ hg; replace HB := Aside0.mk (below_step oB hb); clear hb hbox hg; obtain ⟨⟨_, _⟩, _, _⟩ := z2 BK189) | (go_at_call 52; (with_reducible refine (impl_NameOk.calls k1 ((rd_T71 l0 x7_1).f0) true _ A5.out).mono ?_); rintro e w' ⟨rfl, ⟨nd, rfl⟩⟩) | (go_at_call 47; (with_reducible refine (impl_from.calls (((rd_T71 l0 x7_1).f1).size : Int) 1 16 true _ A7.out).mono ?_); rintro e w' ⟨rfl, ⟨nd, rfl⟩⟩; have p192 : (0 ≤ ((ji10) : Int)) = True := oT; have q192 : ((ji10) < (l0.length : Int)) = True := oT; obtain ⟨ad192, e192, hx192_0, hx192_1⟩ := at_T71 HR0.out (ji10) oa oa; obtain rfl : ad188 = ad192 := (by injection e192); have hn192_0 : ad188.block ≠ gb189 := cn_ hx192_0 GW189; have hn192_1 : ad188.block ≠ gb189 := cn_ hx192_0 GW189; replace hx192_0 := cB HB hx192_0; replace hx192_1 := cB HB hx192_1; replace hx192_0 := cf_ 0 (.string ((rd_T71 l0 x7_1).f0)) hn192_0 hx192_0; replace hx192_1 := cf_ 0 (.string ((rd_T71 l0 x7_1).f0)) hn192_0 hx192_1; replace hx192_0 := cf_ 1 (.string ((rd_T71 l0 x7_1).f1)) hn192_1 hx192_0; replace hx192_1 := cf_ 1 (.string ((rd_T71 l0 x7_1).f1)) hn192_1 hx192_1; (try have hy192_0 := fun (n_ : Nat) => (show ((((w16.drewN n_).setCell ⟨gb189, 0, none⟩ (.string ((rd_T71 l0 x7_1).f0))).setCell ⟨gb189, 1, none⟩ (.string ((rd_T71 l0 x7_1).f1)))).cell? _ = some _ from hx192_0)); (try have hy192_1 := fun (n_ : Nat) => (show ((((w16.drewN n_).setCell ⟨gb189, 0, none⟩ (.string ((rd_T71 l0 x7_1).f0))).setCell ⟨gb189, 1, none⟩ (.string ((rd_T71 l0 x7_1).f1)))).cell? _ = some _ from hx192_1)); clear hn192_0; clear hn192_1))
            try (have p192 : 0 ≤ ((ji10) : Int) := oa; have q192 : (ji10) < (l0.length : Int) := oa; obtain ⟨ad192, e192, hx192_0, hx192_1⟩ := at_T71 HR0.out (ji10) p192 q192; obtain rfl : ad188 = ad192 := (by injection e192); have hn192_0 : ad188.block ≠ gb189 := cn_ hx192_0 GW189; have hn192_1 : ad188.block ≠ gb189 := cn_ hx192_0 GW189; replace hx192_0 := cB HB hx192_0; replace hx192_1 := cB HB hx192_1; replace hx192_0 := cf_ 0 (.string ((rd_T71 l0 x7_1).f0)) hn192_0 hx192_0; replace hx192_1 := cf_ 0 (.string ((rd_T71 l0 x7_1).f0)) hn192_0 hx192_1; replace hx192_0 := cf_ 1 (.string ((rd_T71 l0 x7_1).f1)) hn192_1 hx192_0; replace hx192_1 := cf_ 1 (.string ((rd_T71 l0 x7_1).f1)) hn192_1 hx192_1; (try have hy192_0 := fun (n_ : Nat) => (show ((((w16.drewN n_).setCell ⟨gb189, 0, none⟩ (.string ((rd_T71 l0 x7_1).f0))).setCell ⟨gb189, 1, none⟩ (.string ((rd_T71 l0 x7_1).f1)))).cell? _ = some _ from hx192_0)); (try have hy192_1 := fun (n_ : Nat) => (show ((((w16.drewN n_).setCell ⟨gb189, 0, none⟩ (.string ((rd_T71 l0 x7_1).f0))).setCell ⟨gb189, 1, none⟩ (.string ((rd_T71 l0 x7_1).f1)))).cell? _ = some _ from hx192_1)); clear hn192_0; clear hn192_1; replace p192 := eq_true p192; replace q192 := eq_true q192)
            repeat (go_quiet (first | (go_at_call 52; (with_reducible refine (impl_NameOk.calls k1 ((rd_T71 l0 x7_1).f0) true _ A5.out).mono ?_); rintro e w' ⟨rfl, ⟨nd, rfl⟩⟩; exact oQ) | (go_at_call 47; (with_reducible refine (impl_from.calls (((rd_T71 l0 x7_1).f1).size : Int) 1 16 true _ A7.out).mono ?_); rintro e w' ⟨rfl, ⟨nd, rfl⟩⟩; exact oQ)); try go_wp2_with (first | ((with_reducible refine gate_dst (N := 4) rfl ?_); (try (refine gate_guard (by rfl) ?_; dsimp only)); refine bx_ 4 #[.string (⟨#[]⟩ : ByteArray), .string (⟨#[]⟩ : ByteArray)] 71 ?_; intro gb189 hg w16 hbox hb; have BK189 := Aside0.mk (hbox); have GW189 := gs_ hg; replace HB := Aside0.mk (below_step oB hb); clear hb hbox hg; obtain ⟨⟨_, _⟩, _, _⟩ := z2 BK189) | (go_at_call 52; (with_reducible refine (impl_NameOk.calls k1 ((rd_T71 l0 x7_1).f0) true _ A5.out).mono ?_); rintro e w' ⟨rfl, ⟨nd, rfl⟩⟩) | (go_at_call 47; (with_reducible refine (impl_from.calls (((rd_T71 l0 x7_1).f1).size : Int) 1 16 true _ A7.out).mono ?_); rintro e w' ⟨rfl, ⟨nd, rfl⟩⟩; have p192 : (0 ≤ ((ji10) : Int)) = True := oT; have q192 : ((ji10) < (l0.length : Int)) = True := oT; obtain ⟨ad192, e192, hx192_0, hx192_1⟩ := at_T71 HR0.out (ji10) oa oa; obtain rfl : ad188 = ad192 := (by injection e192); have hn192_0 : ad188.block ≠ gb189 := cn_ hx192_0 GW189; have hn192_1 : ad188.block ≠ gb189 := cn_ hx192_0 GW189; replace hx192_0 := cB HB hx192_0; replace hx192_1 := cB HB hx192_1; replace hx192_0 := cf_ 0 (.string ((rd_T71 l0 x7_1).f0)) hn192_0 hx192_0; replace hx192_1 := cf_ 0 (.string ((rd_T71 l0 x7_1).f0)) hn192_0 hx192_1; replace hx192_0 := cf_ 1 (.string ((rd_T71 l0 x7_1).f1)) hn192_1 hx192_0; replace hx192_1 := cf_ 1 (.string ((rd_T71 l0 x7_1).f1)) hn192_1 hx192_1; (try have hy192_0 := fun (n_ : Nat) => (show ((((w16.drewN n_).setCell ⟨gb189, 0, none⟩ (.string ((rd_T71 l0 x7_1).f0))).setCell ⟨gb189, 1, none⟩ (.string ((rd_T71 l0 x7_1).f1)))).cell? _ = some _ from hx192_0)); (try have hy192_1 := fun (n_ : Nat) => (show ((((w16.drewN n_).setCell ⟨gb189, 0, none⟩ (.string ((rd_T71 l0 x7_1).f0))).setCell ⟨gb189, 1, none⟩ (.string ((rd_T71 l0 x7_1).f1)))).cell? _ = some _ from hx192_1)); clear hn192_0; clear hn192_1)))
            go_ret
            exact ⟨by first | rfl | (simp [errW_none, errW_some] <;> rfl) | (simp only [← hji10]; first | rfl | (simp [errW_none, errW_some] <;> rfl)) | (simp [*, errW_none, errW_some] <;> rfl), oB⟩
          ·cases H
         ·cases H
        ·have H' := Aside0.mk H
         clear H
         have p188 : (0 ≤ (x7_1 : Int)) = True := oT
         have q188 : (x7_1 < (l0.length : Int)) = True := oT
         obtain ⟨ad188, e188, hx188_0, hx188_1⟩ := at_T71 HR0.out x7_1 oa oa
         cases e188
         replace hx188_0 := cB HB hx188_0
         replace hx188_1 := cB HB hx188_1
         go_wp2_with (first | ((with_reducible refine gate_dst (N := 4) rfl ?_); (try (refine gate_guard (by rfl) ?_; dsimp only)); refine bx_ 4 #[.string (⟨#[]⟩ : ByteArray), .string (⟨#[]⟩ : ByteArray)] 71 ?_; intro gb189 hg w18 hbox hb; have BK189 := Aside0.mk (hbox); have GW189 := gs_ hg; replace HB := Aside0.mk (below_step oB hb); clear hb hbox hg; obtain ⟨⟨_, _⟩, _, _⟩ := z2 BK189) | (go_at_call 52; (with_reducible refine (impl_NameOk.calls k1 ((rd_T71 l0 x7_1).f0) true _ A5.out).mono ?_); rintro e w' ⟨rfl, ⟨nd, rfl⟩⟩) | (go_at_call 47; (with_reducible refine (impl_from.calls (((rd_T71 l0 x7_1).f1).size : Int) 1 16 true _ A7.out).mono ?_); rintro e w' ⟨rfl, ⟨nd, rfl⟩⟩))
         repeat (go_quiet (first | (go_at_call 52; (with_reducible refine (impl_NameOk.calls k1 ((rd_T71 l0 x7_1).f0) true _ A5.out).mono ?_); rintro e w' ⟨rfl, ⟨nd, rfl⟩⟩; exact oQ) | (go_at_call 47; (with_reducible refine (impl_from.calls (((rd_T71 l0 x7_1).f1).size : Int) 1 16 true _ A7.out).mono ?_); rintro e w' ⟨rfl, ⟨nd, rfl⟩⟩; exact oQ)); try go_wp2_with (first | ((with_reducible refine gate_dst (N := 4) rfl ?_); (try (refine gate_guard (by rfl) ?_; dsimp only)); refine bx_ 4 #[.string (⟨#[]⟩ : ByteArray), .string (⟨#[]⟩ : ByteArray)] 71 ?_; intro gb189 hg w18 hbox hb; have BK189 := Aside0.mk (hbox); have GW189 := gs_ hg; replace HB := Aside0.mk (below_step oB hb); clear hb hbox hg; obtain ⟨⟨_, _⟩, _, _⟩ := z2 BK189) | (go_at_call 52; (with_reducible refine (impl_NameOk.calls k1 ((rd_T71 l0 x7_1).f0) true _ A5.out).mono ?_); rintro e w' ⟨rfl, ⟨nd, rfl⟩⟩) | (go_at_call 47; (with_reducible refine (impl_from.calls (((rd_T71 l0 x7_1).f1).size : Int) 1 16 true _ A7.out).mono ?_); rintro e w' ⟨rfl, ⟨nd, rfl⟩⟩)))
         go_roundg k1
         case measure => have := HK1.out; omega
         case rel => exact ⟨(wrap64 (x7_1 + 1)), oS, H', ⟨by have := HK1.out; omega⟩, ⟨oB⟩⟩
       ·obtain rfl := Option.some.inj H
        have p188 : (0 ≤ (x7_1 : Int)) = True := oT
        have q188 : (x7_1 < (l0.length : Int)) = True := oT
        obtain ⟨ad188, e188, hx188_0, hx188_1⟩ := at_T71 HR0.out x7_1 oa oa
        cases e188
        replace hx188_0 := cB HB hx188_0
        replace hx188_1 := cB HB hx188_1
        go_wp2_with (first | ((with_reducible refine gate_dst (N := 4) rfl ?_); (try (refine gate_guard (by rfl) ?_; dsimp only)); refine bx_ 4 #[.string (⟨#[]⟩ : ByteArray), .string (⟨#[]⟩ : ByteArray)] 71 ?_; intro gb189 hg w20 hbox hb; have BK189 := Aside0.mk (hbox); have GW189 := gs_ hg; replace HB := Aside0.mk (below_step oB hb); clear hb hbox hg; obtain ⟨⟨_, _⟩, _, _⟩ := z2 BK189) | (go_at_call 52; (with_reducible refine (impl_NameOk.calls k1 ((rd_T71 l0 x7_1).f0) true _ A5.out).mono ?_); rintro e w' ⟨rfl, ⟨nd, rfl⟩⟩) | (go_at_call 47; (with_reducible refine (impl_from.calls (((rd_T71 l0 x7_1).f1).size : Int) 1 16 false _ A7.out).mono ?_); rintro e w' ⟨rfl, ⟨nd, rfl⟩⟩))
        repeat (go_quiet (first | (go_at_call 52; (with_reducible refine (impl_NameOk.calls k1 ((rd_T71 l0 x7_1).f0) true _ A5.out).mono ?_); rintro e w' ⟨rfl, ⟨nd, rfl⟩⟩; exact oQ) | (go_at_call 47; (with_reducible refine (impl_from.calls (((rd_T71 l0 x7_1).f1).size : Int) 1 16 false _ A7.out).mono ?_); rintro e w' ⟨rfl, ⟨nd, rfl⟩⟩; exact oQ)); try go_wp2_with (first | ((with_reducible refine gate_dst (N := 4) rfl ?_); (try (refine gate_guard (by rfl) ?_; dsimp only)); refine bx_ 4 #[.string (⟨#[]⟩ : ByteArray), .string (⟨#[]⟩ : ByteArray)] 71 ?_; intro gb189 hg w20 hbox hb; have BK189 := Aside0.mk (hbox); have GW189 := gs_ hg; replace HB := Aside0.mk (below_step oB hb); clear hb hbox hg; obtain ⟨⟨_, _⟩, _, _⟩ := z2 BK189) | (go_at_call 52; (with_reducible refine (impl_NameOk.calls k1 ((rd_T71 l0 x7_1).f0) true _ A5.out).mono ?_); rintro e w' ⟨rfl, ⟨nd, rfl⟩⟩) | (go_at_call 47; (with_reducible refine (impl_from.calls (((rd_T71 l0 x7_1).f1).size : Int) 1 16 false _ A7.out).mono ?_); rintro e w' ⟨rfl, ⟨nd, rfl⟩⟩)))
        go_ret
        exact ⟨oE, oB⟩
      ·obtain rfl := Option.some.inj H
       have p188 : (0 ≤ (x7_1 : Int)) = True := oT
       have q188 : (x7_1 < (l0.length : Int)) = True := oT
       obtain ⟨ad188, e188, hx188_0, hx188_1⟩ := at_T71 HR0.out x7_1 oa oa
       cases e188
       replace hx188_0 := cB HB hx188_0
       replace hx188_1 := cB HB hx188_1
       go_wp2_with (first | ((with_reducible refine gate_dst (N := 4) rfl ?_); (try (refine gate_guard (by rfl) ?_; dsimp only)); refine bx_ 4 #[.string (⟨#[]⟩ : ByteArray), .string (⟨#[]⟩ : ByteArray)] 71 ?_; intro gb189 hg w22 hbox hb; have BK189 := Aside0.mk (hbox); have GW189 := gs_ hg; replace HB := Aside0.mk (below_step oB hb); clear hb hbox hg; obtain ⟨⟨_, _⟩, _, _⟩ := z2 BK189) | (go_at_call 52; (with_reducible refine (impl_NameOk.calls k1 ((rd_T71 l0 x7_1).f0) false _ A5.out).mono ?_); rintro e w' ⟨rfl, ⟨nd, rfl⟩⟩))
       repeat (go_quiet (first | (go_at_call 52; (with_reducible refine (impl_NameOk.calls k1 ((rd_T71 l0 x7_1).f0) false _ A5.out).mono ?_); rintro e w' ⟨rfl, ⟨nd, rfl⟩⟩; exact oQ)); try go_wp2_with (first | ((with_reducible refine gate_dst (N := 4) rfl ?_); (try (refine gate_guard (by rfl) ?_; dsimp only)); refine bx_ 4 #[.string (⟨#[]⟩ : ByteArray), .string (⟨#[]⟩ : ByteArray)] 71 ?_; intro gb189 hg w22 hbox hb; have BK189 := Aside0.mk (hbox); have GW189 := gs_ hg; replace HB := Aside0.mk (below_step oB hb); clear hb hbox hg; obtain ⟨⟨_, _⟩, _, _⟩ := z2 BK189) | (go_at_call 52; (with_reducible refine (impl_NameOk.calls k1 ((rd_T71 l0 x7_1).f0) false _ A5.out).mono ?_); rintro e w' ⟨rfl, ⟨nd, rfl⟩⟩)))
       go_ret
       exact ⟨oE, oB⟩
     ·cases H
    ·cases H
   ·obtain rfl := Option.some.inj H
    go_wp2
    repeat (go_quiet (fail); try go_wp2)
    go_ret
    exact ⟨oE, oB⟩

/-! ### impl_namesOk: function 37 -/
theorem namesOk1.calls (k : Nat) (s : ByteArray) (t : Bool) (w : World) (h : impl_NameOk.f k s = some t) :
  Calls Tryz.prog 65 #[.string s] w fun e w' => e = .returned (.bool (!t)) ∧ Below w.heap.size w w' := by
 have hc := impl_NameOk.calls k s t w h
 clear h
 go_enter Tryz.func65, Tryz.ntmps65
 go_wp2_with (go_at_call 52; refine hc.mono ?_; rintro e w1 ⟨rfl, m, rfl⟩)
 go_ret
 exact ⟨rfl, pw_below_drewN (Below.refl _ _) m⟩
/-- The first of the names that is not right, counted from i on. -/
def badR (k : Nat) : List ByteArray → Nat → Option Int
 | [], _ => some (-1)
 | x :: l, i => (impl_NameOk.f k x).bind fun t => if t = true then badR k l (i + 1) else some (i : Int)
set_option maxHeartbeats 1000000 in
set_option maxRecDepth 100000 in
theorem namesIdx.calls (k : Nat) (A0 : Option Addr) (c0 : Nat) (l : List ByteArray) (r : Int) (w : World) (hr : Kd.C Kd.string w A0 l.length l) (hl : l.length ≤ 9223372036854775807) (h : badR k l 0 = some r) :
  Calls Tryz.prog 91 #[.slice A0 l.length c0, .func (.func 65) #[] #[]] w fun e w' => e = .returned (.int .i64 r) ∧ Below w.heap.size w w' := by
 have H0 := Aside0.mk h
 clear h
 go_enter Tryz.func91, Tryz.ntmps91
 go_wp2
 go_loopg [5, 8] l.length (fun gg _ s8 wr => ∃ kk : Nat, kk ≤ l.length ∧ l.length - kk ≤ gg ∧ s8 = .int .i64 kk ∧ Aside0 (Below w.heap.size w wr) ∧ Aside0 (badR k (l.drop kk) kk = some r))
 case atStart => exact ⟨0, Nat.zero_le _, by omega, rfl, ⟨Below.refl _ w⟩, H0⟩
 case round =>
  clear H0
  obtain ⟨kk, hkk, hg, rfl, BW, HA⟩ := hrel
  by_cases hlt : kk < l.length
  ·have hltz : (kk : Int) < (l.length : Int) := by omega
   have h1 := HA.out
   rw [List.drop_eq_getElem_cons hlt, badR] at h1
   replace h1 := bA h1
   obtain ⟨t, A1, h1⟩ := h1
   obtain ⟨ad, c, e0, hcl, hK, hcell⟩ := Kd.C_get (Kd.C_below hr BW.out) ⟨#[]⟩ (kk : Int) (by omega) hltz
   cases e0
   have hx : l.getD (kk : Int).toNat ⟨#[]⟩ = l[kk] := by rw [Int.toNat_natCast, List.getD_eq_getElem?_getD, List.getElem?_eq_getElem hlt]; rfl
   rw [hx] at hK
   obtain rfl : c = [.string l[kk]] := hK
   have h0 : wr.cell? (ad.add kk) = some (.string l[kk]) := by have := hcell 0 _ rfl; simpa [Kd.string, Kd.scalar] using this
   clear hcell hcl hx
   cases t with
   | true =>
    have H' := Aside0.mk h1
    clear h1
    go_wp2_with (go_at_call 65; refine (namesOk1.calls k l[kk] true _ A1.out).mono ?_; rintro e w1 ⟨rfl, hb⟩)
    go_roundg (l.length - (kk + 1))
    case measure => omega
    case rel => exact ⟨kk + 1, by omega, by omega, by go_num, ⟨below_then BW.out BW.out.size hb⟩, H'⟩
   | false =>
    obtain rfl := Option.some.inj h1
    go_wp2_with (go_at_call 65; refine (namesOk1.calls k l[kk] false _ A1.out).mono ?_; rintro e w1 ⟨rfl, hb⟩)
    go_ret
    exact ⟨rfl, below_then BW.out BW.out.size hb⟩
  ·have hltz : ¬ (kk : Int) < (l.length : Int) := by omega
   obtain rfl : kk = l.length := by omega
   have h1 := HA.out
   rw [List.drop_length, badR] at h1
   obtain rfl := Option.some.inj h1
   go_wp2
   go_ret
   exact ⟨rfl, BW.out⟩
theorem namesAny.calls (k : Nat) (A0 : Option Addr) (c0 : Nat) (l : List ByteArray) (r : Int) (w : World) (hr : Kd.C Kd.string w A0 l.length l) (hl : l.length ≤ 9223372036854775807) (h : badR k l 0 = some r) :
  Calls Tryz.prog 64 #[.slice A0 l.length c0, .func (.func 65) #[] #[]] w fun e w' => e = .returned (.bool (decide (0 ≤ r))) ∧ Below w.heap.size w w' := by
 have hc := namesIdx.calls k A0 c0 l r w hr hl h
 clear hr h
 go_enter Tryz.func64, Tryz.ntmps64
 go_wp2_with (go_at_call 91; refine hc.mono ?_; rintro e w1 ⟨rfl, hb⟩)
 go_ret
 exact ⟨rfl, hb⟩
def impl_namesOk.f (k : Nat) (l : List ByteArray) : Option Bool := if l.length ≤ 30 then (badR k l 0).bind fun r => some (!decide (0 ≤ r)) else some false
theorem impl_namesOk.calls (k : Nat) (A0 : Option Addr) (c0 : Nat) (l : List ByteArray) (r : Bool) (w : World) (hr : Kd.C Kd.string w A0 l.length l) (hc0 : l.length ≤ c0) (h : impl_namesOk.f k l = some r) :
  Calls Tryz.prog 37 #[.slice A0 l.length c0] w fun e w' => e = .returned (.bool r) ∧ Below w.heap.size w w' := by
 unfold impl_namesOk.f at h
 split at h
 case isTrue hl =>
  replace h := bA h
  obtain ⟨i, A1, h⟩ := h
  obtain rfl := Option.some.inj h
  have hc := namesAny.calls k A0 c0 l i w hr (by omega) A1.out
  have hlz : decide ((l.length : Int) ≤ 30) = true := decide_eq_true (by omega)
  clear hr h hl hc0
  go_enter Tryz.func37, Tryz.ntmps37
  go_wp2_with (go_at_call 64; refine hc.mono ?_; rintro e w1 ⟨rfl, hb⟩)
  go_ret
  exact ⟨rfl, hb⟩
 case isFalse hl =>
  obtain rfl := Option.some.inj h
  have hlz : decide ((l.length : Int) ≤ 30) = false := decide_eq_false (by omega)
  clear hr h hl hc0
  go_enter Tryz.func37, Tryz.ntmps37
  go_wp2
  go_ret
  exact ⟨rfl, Below.refl _ _⟩
/-! ### impl_copyInode: function 71 -/
def impl_copyInode.f (a0_0 : Int) (a0_1 : Int) (a0_2 : Int) (l0_3 : List Int) (l0_4 : List (S65)) (l0_5 : List (S71)) : Option (Int × Int × Int × List Int × (List (S65)) × (List (S71))) := (slices_Clone_byte_byte.f l0_3).bind fun t131 => ((slices_Clone_Ent.f l0_4).bind fun t134 => ((slices_Clone_Attr.f l0_5).bind fun t137 => (some (a0_0, a0_1, a0_2, t131, t134, t137))))
set_option maxHeartbeats 8000000 in
set_option maxRecDepth 100000 in
theorem impl_copyInode.calls (a0_0 : Int) (a0_1 : Int) (a0_2 : Int) (A0_3 : Option Addr) (c0_3 : Nat) (l0_3 : List Int) (A0_4 : Option Addr) (c0_4 : Nat) (l0_4 : List (S65)) (A0_5 : Option Addr) (c0_5 : Nat) (l0_5 : List (S71)) (r1 : Int) (r2 : Int) (r3 : Int) (r4 : List Int) (r5 : List (S65)) (r6 : List (S71)) (w : World) (hr0_3 : Kd.C (Kd.int .u8) w A0_3 l0_3.length l0_3) (hc0_3 : l0_3.length ≤ c0_3) (hr0_4 : Kd.C k65 w A0_4 l0_4.length l0_4) (hc0_4 : l0_4.length ≤ c0_4) (hr0_5 : Kd.C k71 w A0_5 l0_5.length l0_5) (hc0_5 : l0_5.length ≤ c0_5) (h : impl_copyInode.f a0_0 a0_1 a0_2 l0_3 l0_4 l0_5 = some (r1, r2, r3, r4, r5, r6)) :
  Calls Tryz.prog 71 #[.agg #[.int .i64 a0_0, .int .i64 a0_1, .int .i64 a0_2, .slice A0_3 l0_3.length c0_3, .slice A0_4 l0_4.length c0_4, .slice A0_5 l0_5.length c0_5]] w fun e w' => ∃ v3_ v4_ v5_ : Value, e = .returned (.agg #[.int .i64 r1, .int .i64 r2, .int .i64 r3, v3_, v4_, v5_]) ∧ Kd.R (Kd.int .u8) 5 w' w.heap.size (fun _ => True) v3_ r4 ∧ Kd.R k65 65 w' w.heap.size (fun _ => True) v4_ r5 ∧ Kd.R k71 71 w' w.heap.size (fun _ => True) v5_ r6 ∧ Below w.heap.size w w' := by
 have hu51 := Tryz.underlying51
 have HR0_3 := Aside0.mk hr0_3
 have HC0_3 := Aside0.mk hc0_3
 clear hr0_3 hc0_3
 have HR0_4 := Aside0.mk hr0_4
 have HC0_4 := Aside0.mk hc0_4
 clear hr0_4 hc0_4
 have HR0_5 := Aside0.mk hr0_5
 have HC0_5 := Aside0.mk hc0_5
 clear hr0_5 hc0_5
 have HB := Aside0.mk (Below.refl w.heap.size w)
 unfold impl_copyInode.f at h
 have H := h
 clear h
 replace H := bA H
 obtain ⟨t131, A2, H⟩ := H
 try dsimp only at H
 replace H := bA H
 obtain ⟨t134, A3, H⟩ := H
 try dsimp only at H
 replace H := bA H
 obtain ⟨t137, A4, H⟩ := H
 try dsimp only at H
 simp only [Option.some.injEq, Prod.mk.injEq] at H
 obtain ⟨rfl, rfl, rfl, rfl, rfl, rfl⟩ := H
 go_enter Tryz.func71, Tryz.ntmps71
 go_wp2_with (first | ((with_reducible refine gate_dst (N := 1) rfl ?_); refine bx_ 1 #[.int .i64 a0_0, .int .i64 a0_1, .int .i64 a0_2, .slice A0_3 l0_3.length c0_3, .slice A0_4 l0_4.length c0_4, .slice A0_5 l0_5.length c0_5] 51 ?_; intro gb129 hg w5 hbox hb; have BK129 := Aside0.mk (hbox); have GW129 := gs_ hg; replace HB := Aside0.mk (below_step oB hb); clear hb hbox hg) | ((with_reducible refine gate_dst (N := 2) rfl ?_); refine bx_ 2 #[.int .i64 0, .int .i64 0, .int .i64 0, .slice none 0 0, .slice none 0 0, .slice none 0 0] 51 ?_; intro gb130 hg w6 hbox hb; have BK130 := Aside0.mk (hbox); have GW130 := gs_ hg; have NB129_130 := nl_ hg BK129; have NB130_129 := nr_ hg BK129; replace BK129 := kb_ BK129 hb; replace HB := Aside0.mk (below_step oB hb); clear hb hbox hg; have hnb7 := NB129_130.out; have hnc7 := NB130_129.out; obtain ⟨⟨_, _, _, _, _, _⟩, _, _, _, _, _, _⟩ := z6 BK129) | ((with_reducible refine gate_callee (f := 51) rfl ?_); refine gl_ 5 Tryz.func51 (slices_Clone_byte_byte.calls _ _ l0_3 t131 _ (kC HR0_3) HC0_3.out A2.out) ?_; rintro e w9 ⟨v132, rfl, ho0, hb⟩; refine ⟨_, rfl, ?_⟩; have HO133 := Aside0.mk (Kd.R_lower ho0 (below_size oB)); replace BK129 := kb_ BK129 hb; replace BK130 := kb_ BK130 hb; replace HB := Aside0.mk (below_step oB hb); obtain ⟨Ao10, co10, eo10⟩ := Kd.R_slice HO133.out; subst eo10; obtain ⟨⟨_, _, _, _, _, _⟩, _, _, _, _, _, _⟩ := z6 BK129) | ((with_reducible refine gate_callee (f := 82) rfl ?_); refine gl_ 9 Tryz.func82 (slices_Clone_Ent.calls _ _ l0_4 t134 _ ?side1 HC0_4.out A3.out) ?_; (case side1 => exact Kd.C_below HR0_4.out oB); rintro e w12 ⟨v135, rfl, ho0, hb⟩; refine ⟨_, rfl, ?_⟩; have HO136 := Aside0.mk (Kd.R_lower ho0 (below_size oB)); replace HO133 := beR1 HO133 BK129 hb; replace BK129 := kp_ #[.int .i64 a0_0, .int .i64 a0_1, .int .i64 a0_2, .slice Ao10 t131.length co10, .slice A0_4 l0_4.length c0_4, .slice A0_5 l0_5.length c0_5] BK129 hb; replace BK130 := kb_ BK130 hb; replace HB := Aside0.mk (below_step oB hb); (try clear hk); obtain ⟨Ao13, co13, eo13⟩ := Kd.R_slice HO136.out; subst eo13; obtain ⟨⟨_, _, _, _, _, _⟩, _, _, _, _, _, _⟩ := z6 BK129) | ((with_reducible refine gate_callee (f := 95) rfl ?_); refine gl_ 13 Tryz.func95 (slices_Clone_Attr.calls _ _ l0_5 t137 _ ?side1 HC0_5.out A4.out) ?_; (case side1 => exact Kd.C_below HR0_5.out oB); rintro e w15 ⟨v138, rfl, ho0, hb⟩; refine ⟨_, rfl, ?_⟩; have HO139 := Aside0.mk (Kd.R_lower ho0 (below_size oB)); replace HO133 := beR1 HO133 BK129 hb; replace HO136 := beR1 HO136 BK129 hb; replace BK129 := kp_ #[.int .i64 a0_0, .int .i64 a0_1, .int .i64 a0_2, .slice Ao10 t131.length co10, .slice Ao13 t134.length co13, .slice A0_5 l0_5.length c0_5] BK129 hb; replace BK130 := kb_ BK130 hb; replace HB := Aside0.mk (below_step oB hb); (try clear hk); obtain ⟨Ao16, co16, eo16⟩ := Kd.R_slice HO139.out; subst eo16; obtain ⟨⟨_, _, _, _, _, _⟩, _, _, _, _, _, _⟩ := z6 BK129; obtain ⟨⟨_, _, _, _, _, _⟩, _, _, _, _, _, _⟩ := z6 BK130))
 refine bodyPost_ret (results_cell_row rfl _ _ gb130 51 #[.int .i64 a0_0, .int .i64 a0_1, .int .i64 a0_2, .slice Ao10 t131.length co10, .slice Ao13 t134.length co13, .slice Ao16 t137.length co16] (0, 0) _ rfl (oP BK130) Tryz.underlying51 rfl (by kernel_rfl)) rfl ?_
 exact ⟨_, _, _, oE, by (with_reducible repeat (first | apply Kd.R_alloc | apply Kd.R_drewN | apply Kd.R_drew)); exact Kd.R_mono (Kd.R_far (p := ⟨gb130, 5, none⟩) (Kd.R_far (p := ⟨gb130, 4, none⟩) (Kd.R_far (p := ⟨gb130, 3, none⟩) (Kd.R_far (p := ⟨gb130, 2, none⟩) (Kd.R_far (p := ⟨gb130, 1, none⟩) (Kd.R_far (p := ⟨gb130, 0, none⟩) (Kd.R_far (p := ⟨gb129, 5, none⟩) (Kd.R_types (Kd.R_types HO133.out BK129.out (by decide)) BK130.out (by decide)) (fun _ hk => hk.1.2) (.slice Ao16 t137.length co16)) (fun _ hk => hk.2) (.int .i64 a0_0)) (fun _ hk => hk.2) (.int .i64 a0_1)) (fun _ hk => hk.2) (.int .i64 a0_2)) (fun _ hk => hk.2) (.slice Ao10 t131.length co10)) (fun _ hk => hk.2) (.slice Ao13 t134.length co13)) (fun _ hk => hk.2) (.slice Ao16 t137.length co16)) (fun _ hk => trivial), by (with_reducible repeat (first | apply Kd.R_alloc | apply Kd.R_drewN | apply Kd.R_drew)); exact Kd.R_mono (Kd.R_far (p := ⟨gb130, 5, none⟩) (Kd.R_far (p := ⟨gb130, 4, none⟩) (Kd.R_far (p := ⟨gb130, 3, none⟩) (Kd.R_far (p := ⟨gb130, 2, none⟩) (Kd.R_far (p := ⟨gb130, 1, none⟩) (Kd.R_far (p := ⟨gb130, 0, none⟩) (Kd.R_far (p := ⟨gb129, 5, none⟩) (Kd.R_types (Kd.R_types HO136.out BK129.out (by decide)) BK130.out (by decide)) (fun _ hk => hk.1.2) (.slice Ao16 t137.length co16)) (fun _ hk => hk.2) (.int .i64 a0_0)) (fun _ hk => hk.2) (.int .i64 a0_1)) (fun _ hk => hk.2) (.int .i64 a0_2)) (fun _ hk => hk.2) (.slice Ao10 t131.length co10)) (fun _ hk => hk.2) (.slice Ao13 t134.length co13)) (fun _ hk => hk.2) (.slice Ao16 t137.length co16)) (fun _ hk => trivial), by (with_reducible repeat (first | apply Kd.R_alloc | apply Kd.R_drewN | apply Kd.R_drew)); exact Kd.R_mono (Kd.R_far (p := ⟨gb130, 5, none⟩) (Kd.R_far (p := ⟨gb130, 4, none⟩) (Kd.R_far (p := ⟨gb130, 3, none⟩) (Kd.R_far (p := ⟨gb130, 2, none⟩) (Kd.R_far (p := ⟨gb130, 1, none⟩) (Kd.R_far (p := ⟨gb130, 0, none⟩) (Kd.R_far (p := ⟨gb129, 5, none⟩) (Kd.R_types (Kd.R_types HO139.out BK129.out (by decide)) BK130.out (by decide)) (fun _ hk => hk.1.2) (.slice Ao16 t137.length co16)) (fun _ hk => hk.2) (.int .i64 a0_0)) (fun _ hk => hk.2) (.int .i64 a0_1)) (fun _ hk => hk.2) (.int .i64 a0_2)) (fun _ hk => hk.2) (.slice Ao10 t131.length co10)) (fun _ hk => hk.2) (.slice Ao13 t134.length co13)) (fun _ hk => hk.2) (.slice Ao16 t137.length co16)) (fun _ hk => trivial), oB⟩

end Go.Proofs.YtkcfmbggdkkfeaaGreatDoor.P
