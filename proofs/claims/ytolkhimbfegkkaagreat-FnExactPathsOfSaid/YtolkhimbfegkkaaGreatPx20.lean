-- By this session's own program (wip/myprint.py) out of the translation; Lean checks it.
import Derived.Test.YtolkhimbfegkkaaGreatPx0
import Derived.Test.YtolkhimbfegkkaaGreatPx14
import Derived.Test.YtolkhimbfegkkaaGreatPx16
import Derived.Test.YtolkhimbfegkkaaGreatPx17
namespace Go.Proofs.YtolkhimbfegkkaaGreat.P
open Go.RowKit Go.Proofs.YtolkhimbfegkkaaGreatW.PrintWords Go.Proofs.YtolkhimbfegkkaaGreatW.PrintLast Go.Proofs.YtolkhimbfegkkaaGreatW.PrintMore
attribute [local go_sem] max2_int min2_int max_two min_two max_three min_three max_four min_four   -- for this text's walks alone
set_option linter.unusedVariables false
set_option linter.unusedSimpArgs false

/-! ### laws_eqTab: function 9 -/
def laws_eqTab.f (k : Nat) (l0_0 : List (S47)) (a0_1 : Int) (l1_0 : List (S47)) (a1_1 : Int) : Option (Bool) := (laws_eqInodeS.f k l0_0 l1_0).bind fun t527 => (if t527 = true then (if a0_1 = a1_1 then (some true) else (some false)) else (some false))
set_option maxHeartbeats 8000000 in
set_option maxRecDepth 100000 in
theorem laws_eqTab.calls (k : Nat) (A0_0 : Option Addr) (c0_0 : Nat) (l0_0 : List (S47)) (a0_1 : Int) (A1_0 : Option Addr) (c1_0 : Nat) (l1_0 : List (S47)) (a1_1 : Int) (r : Bool) (w : World) (hr0_0 : Kd.C k47 w A0_0 l0_0.length l0_0) (hc0_0 : l0_0.length ≤ c0_0) (hr1_0 : Kd.C k47 w A1_0 l1_0.length l1_0) (hc1_0 : l1_0.length ≤ c1_0) (h : laws_eqTab.f k l0_0 a0_1 l1_0 a1_1 = some r) :
  Calls Tryz.prog 9 #[.agg #[.slice A0_0 l0_0.length c0_0, .int .i64 a0_1], .agg #[.slice A1_0 l1_0.length c1_0, .int .i64 a1_1]] w fun e w' => e = .returned (.bool r) ∧ Below w.heap.size w w' := by
 have hu30 := Tryz.underlying30
 have HR0_0 := Aside0.mk hr0_0
 have HC0_0 := Aside0.mk hc0_0
 clear hr0_0 hc0_0
 have HR1_0 := Aside0.mk hr1_0
 have HC1_0 := Aside0.mk hc1_0
 clear hr1_0 hc1_0
 have HB := Aside0.mk (Below.refl w.heap.size w)
 unfold laws_eqTab.f at h
 have H := h
 clear h
 replace H := bA H
 obtain ⟨t527, A3, H⟩ := H
 try dsimp only at H
 replace H := itB H
 rcases H with ⟨rfl, H⟩ | ⟨rfl, H⟩
 ·by_cases c5 : a0_1 = a1_1
  ·rw [if_pos c5] at H
   have c5b0 : (a0_1 == a1_1) = true := beq_iff_eq.mpr c5
   have c5b1 : (a0_1 != a1_1) = false := bne_eq_false_iff_eq.mpr c5
   clear c5
   obtain rfl := Option.some.inj H
   go_enter Tryz.func9, Tryz.ntmps9
   go_wp2_with (first | ((with_reducible refine gate_dst (N := 2) rfl ?_); refine bx_ 2 #[.slice A0_0 l0_0.length c0_0, .int .i64 a0_1] 30 ?_; intro gb525 hg w6 hbox hb; have BK525 := Aside0.mk (hbox); have GW525 := gs_ hg; replace HB := Aside0.mk (below_step oB hb); clear hb hbox hg) | ((with_reducible refine gate_dst (N := 3) rfl ?_); refine bx_ 3 #[.slice A1_0 l1_0.length c1_0, .int .i64 a1_1] 30 ?_; intro gb526 hg w7 hbox hb; have BK526 := Aside0.mk (hbox); have GW526 := gs_ hg; have NB525_526 := nl_ hg BK525; have NB526_525 := nr_ hg BK525; replace BK525 := kb_ BK525 hb; replace HB := Aside0.mk (below_step oB hb); clear hb hbox hg; have hnb8 := NB525_526.out; have hnc8 := NB526_525.out; obtain ⟨⟨_, _⟩, _, _⟩ := z2 BK525; obtain ⟨⟨_, _⟩, _, _⟩ := z2 BK526) | ((with_reducible refine gate_callee (f := 22) rfl ?_); refine gl_ 9 Tryz.func22 (laws_eqInodeS.calls k _ _ l0_0 _ _ l1_0 true _ (kC HR0_0) HC0_0.out (kC HR1_0) HC1_0.out A3.out) ?_; rintro e w11 ⟨rfl, hb⟩; refine ⟨_, rfl, ?_⟩; replace BK525 := kb_ BK525 hb; replace BK526 := kb_ BK526 hb; replace HB := Aside0.mk (below_step oB hb); obtain ⟨⟨_, _⟩, _, _⟩ := z2 BK525; obtain ⟨⟨_, _⟩, _, _⟩ := z2 BK526))
   go_ret
   exact ⟨oE, oB⟩
  ·rw [if_neg c5] at H
   have c5b0 : (a0_1 == a1_1) = false := beq_eq_false_iff_ne.mpr c5
   have c5b1 : (a0_1 != a1_1) = true := bne_iff_ne.mpr c5
   obtain rfl := Option.some.inj H
   go_enter Tryz.func9, Tryz.ntmps9
   go_wp2_with (first | ((with_reducible refine gate_dst (N := 2) rfl ?_); refine bx_ 2 #[.slice A0_0 l0_0.length c0_0, .int .i64 a0_1] 30 ?_; intro gb525 hg w14 hbox hb; have BK525 := Aside0.mk (hbox); have GW525 := gs_ hg; replace HB := Aside0.mk (below_step oB hb); clear hb hbox hg) | ((with_reducible refine gate_dst (N := 3) rfl ?_); refine bx_ 3 #[.slice A1_0 l1_0.length c1_0, .int .i64 a1_1] 30 ?_; intro gb526 hg w15 hbox hb; have BK526 := Aside0.mk (hbox); have GW526 := gs_ hg; have NB525_526 := nl_ hg BK525; have NB526_525 := nr_ hg BK525; replace BK525 := kb_ BK525 hb; replace HB := Aside0.mk (below_step oB hb); clear hb hbox hg; have hnb16 := NB525_526.out; have hnc16 := NB526_525.out; obtain ⟨⟨_, _⟩, _, _⟩ := z2 BK525; obtain ⟨⟨_, _⟩, _, _⟩ := z2 BK526) | ((with_reducible refine gate_callee (f := 22) rfl ?_); refine gl_ 9 Tryz.func22 (laws_eqInodeS.calls k _ _ l0_0 _ _ l1_0 true _ (kC HR0_0) HC0_0.out (kC HR1_0) HC1_0.out A3.out) ?_; rintro e w19 ⟨rfl, hb⟩; refine ⟨_, rfl, ?_⟩; replace BK525 := kb_ BK525 hb; replace BK526 := kb_ BK526 hb; replace HB := Aside0.mk (below_step oB hb); obtain ⟨⟨_, _⟩, _, _⟩ := z2 BK525; obtain ⟨⟨_, _⟩, _, _⟩ := z2 BK526))
   go_ret
   exact ⟨oE, oB⟩
 ·obtain rfl := Option.some.inj H
  go_enter Tryz.func9, Tryz.ntmps9
  go_wp2_with (first | ((with_reducible refine gate_dst (N := 2) rfl ?_); refine bx_ 2 #[.slice A0_0 l0_0.length c0_0, .int .i64 a0_1] 30 ?_; intro gb525 hg w22 hbox hb; have BK525 := Aside0.mk (hbox); have GW525 := gs_ hg; replace HB := Aside0.mk (below_step oB hb); clear hb hbox hg) | ((with_reducible refine gate_dst (N := 3) rfl ?_); refine bx_ 3 #[.slice A1_0 l1_0.length c1_0, .int .i64 a1_1] 30 ?_; intro gb526 hg w23 hbox hb; have BK526 := Aside0.mk (hbox); have GW526 := gs_ hg; have NB525_526 := nl_ hg BK525; have NB526_525 := nr_ hg BK525; replace BK525 := kb_ BK525 hb; replace HB := Aside0.mk (below_step oB hb); clear hb hbox hg; have hnb24 := NB525_526.out; have hnc24 := NB526_525.out; obtain ⟨⟨_, _⟩, _, _⟩ := z2 BK525; obtain ⟨⟨_, _⟩, _, _⟩ := z2 BK526) | ((with_reducible refine gate_callee (f := 22) rfl ?_); refine gl_ 9 Tryz.func22 (laws_eqInodeS.calls k _ _ l0_0 _ _ l1_0 false _ (kC HR0_0) HC0_0.out (kC HR1_0) HC1_0.out A3.out) ?_; rintro e w27 ⟨rfl, hb⟩; refine ⟨_, rfl, ?_⟩; replace BK525 := kb_ BK525 hb; replace BK526 := kb_ BK526 hb; replace HB := Aside0.mk (below_step oB hb)))
  go_ret
  exact ⟨oE, oB⟩

/-! ### laws_szTab: function 4 -/
def laws_szTab.f (k : Nat) (l0_0 : List (S59)) (a0_1 : Int) (a1 : Int) : Option (Int) := (laws_szInodeS.f k l0_0 a1).bind fun t114 => (if t114 < 0 then (some (-1)) else (some t114))
set_option maxHeartbeats 8000000 in
set_option maxRecDepth 100000 in
theorem laws_szTab.calls (k : Nat) (A0_0 : Option Addr) (c0_0 : Nat) (l0_0 : List (S59)) (a0_1 : Int) (a1 : Int) (r : Int) (w : World) (hr0_0 : Kd.C k59 w A0_0 l0_0.length l0_0) (hc0_0 : l0_0.length ≤ c0_0) (h : laws_szTab.f k l0_0 a0_1 a1 = some r) :
  Calls Tryz.prog 4 #[.agg #[.slice A0_0 l0_0.length c0_0, .int .i64 a0_1], .int .i64 a1] w fun e w' => e = .returned (.int .i64 r) ∧ Below w.heap.size w w' := by
 have hu24 := Tryz.underlying24
 have HR0_0 := Aside0.mk hr0_0
 have HC0_0 := Aside0.mk hc0_0
 clear hr0_0 hc0_0
 have HB := Aside0.mk (Below.refl w.heap.size w)
 unfold laws_szTab.f at h
 have H := h
 clear h
 replace H := bA H
 obtain ⟨t114, A3, H⟩ := H
 try dsimp only at H
 replace H := itD H
 rcases H with ⟨c4b0, H⟩ | ⟨c4b0, H⟩
 ·obtain rfl := Option.some.inj H
  go_enter Tryz.func4, Tryz.ntmps4
  go_wp2_with (first | ((with_reducible refine gate_dst (N := 2) rfl ?_); refine bx_ 2 #[.slice A0_0 l0_0.length c0_0, .int .i64 a0_1] 24 ?_; intro gb113 hg w5 hbox hb; have BK113 := Aside0.mk (hbox); have GW113 := gs_ hg; replace HB := Aside0.mk (below_step oB hb); clear hb hbox hg; obtain ⟨⟨_, _⟩, _, _⟩ := z2 BK113) | ((with_reducible refine gate_callee (f := 13) rfl ?_); refine gl_ 8 Tryz.func13 (laws_szInodeS.calls k _ _ l0_0 a1 t114 _ (kC HR0_0) HC0_0.out A3.out) ?_; rintro e w7 ⟨rfl, hb⟩; refine ⟨_, rfl, ?_⟩; replace BK113 := kb_ BK113 hb; replace HB := Aside0.mk (below_step oB hb)))
  go_ret
  exact ⟨oE, oB⟩
 ·obtain rfl := Option.some.inj H
  go_enter Tryz.func4, Tryz.ntmps4
  go_wp2_with (first | ((with_reducible refine gate_dst (N := 2) rfl ?_); refine bx_ 2 #[.slice A0_0 l0_0.length c0_0, .int .i64 a0_1] 24 ?_; intro gb113 hg w8 hbox hb; have BK113 := Aside0.mk (hbox); have GW113 := gs_ hg; replace HB := Aside0.mk (below_step oB hb); clear hb hbox hg; obtain ⟨⟨_, _⟩, _, _⟩ := z2 BK113) | ((with_reducible refine gate_callee (f := 13) rfl ?_); refine gl_ 8 Tryz.func13 (laws_szInodeS.calls k _ _ l0_0 a1 t114 _ (kC HR0_0) HC0_0.out A3.out) ?_; rintro e w10 ⟨rfl, hb⟩; refine ⟨_, rfl, ?_⟩; replace BK113 := kb_ BK113 hb; replace HB := Aside0.mk (below_step oB hb)))
  go_ret
  exact ⟨oE, oB⟩

/-! ### laws_toTab: function 6 -/
def laws_toTab.f (k : Nat) (l0_0 : List (S59)) (a0_1 : Int) : Option ((List (S47)) × Int) := (laws_toInodeS.f k l0_0).bind fun t322 => (some (t322, a0_1))
set_option maxHeartbeats 8000000 in
set_option maxRecDepth 100000 in
theorem laws_toTab.calls (k : Nat) (A0_0 : Option Addr) (c0_0 : Nat) (l0_0 : List (S59)) (a0_1 : Int) (r1 : List (S47)) (r2 : Int) (w : World) (hr0_0 : Kd.C k59 w A0_0 l0_0.length l0_0) (hc0_0 : l0_0.length ≤ c0_0) (h : laws_toTab.f k l0_0 a0_1 = some (r1, r2)) :
  Calls Tryz.prog 6 #[.agg #[.slice A0_0 l0_0.length c0_0, .int .i64 a0_1]] w fun e w' => ∃ v0_ : Value, e = .returned (.agg #[v0_, .int .i64 r2]) ∧ Kd.S k47 47 w' w.heap.size (fun _ => True) v0_ r1 ∧ Below w.heap.size w w' := by
 have hu24 := Tryz.underlying24
 have hu30 := Tryz.underlying30
 have HR0_0 := Aside0.mk hr0_0
 have HC0_0 := Aside0.mk hc0_0
 clear hr0_0 hc0_0
 have HB := Aside0.mk (Below.refl w.heap.size w)
 unfold laws_toTab.f at h
 have H := h
 clear h
 replace H := bA H
 obtain ⟨t322, A2, H⟩ := H
 try dsimp only at H
 simp only [Option.some.injEq, Prod.mk.injEq] at H
 obtain ⟨rfl, rfl⟩ := H
 go_enter Tryz.func6, Tryz.ntmps6
 go_wp2_with (first | ((with_reducible refine gate_dst (N := 1) rfl ?_); refine bx_ 1 #[.slice A0_0 l0_0.length c0_0, .int .i64 a0_1] 24 ?_; intro gb319 hg w3 hbox hb; have BK319 := Aside0.mk (hbox); have GW319 := gs_ hg; replace HB := Aside0.mk (below_step oB hb); clear hb hbox hg) | ((with_reducible refine gate_dst (N := 2) rfl ?_); refine bx_ 2 #[.slice none 0 0, .int .i64 0] 30 ?_; intro gb320 hg w4 hbox hb; have BK320 := Aside0.mk (hbox); have GW320 := gs_ hg; have NB319_320 := nl_ hg BK319; have NB320_319 := nr_ hg BK319; replace BK319 := kb_ BK319 hb; replace HB := Aside0.mk (below_step oB hb); clear hb hbox hg) | ((with_reducible refine gate_dst (N := 3) rfl ?_); refine bx_ 3 #[.slice none 0 0, .int .i64 0] 30 ?_; intro gb321 hg w5 hbox hb; have BK321 := Aside0.mk (hbox); have GW321 := gs_ hg; have NB319_321 := nl_ hg BK319; have NB321_319 := nr_ hg BK319; have NB320_321 := nl_ hg BK320; have NB321_320 := nr_ hg BK320; replace BK319 := kb_ BK319 hb; replace BK320 := kb_ BK320 hb; replace HB := Aside0.mk (below_step oB hb); clear hb hbox hg; have hnb6 := NB319_320.out; have hnc6 := NB320_319.out; have hnb7 := NB319_321.out; have hnc7 := NB321_319.out; obtain ⟨⟨_, _⟩, _, _⟩ := z2 BK319) | ((with_reducible refine gate_callee (f := 17) rfl ?_); refine gl_ 6 Tryz.func17 (laws_toInodeS.calls k _ _ l0_0 t322 _ (kC HR0_0) HC0_0.out A2.out) ?_; rintro e w9 ⟨v323, rfl, ho0, hb⟩; refine ⟨_, rfl, ?_⟩; have HO324 := Aside0.mk (Kd.S_lower ho0 (below_size oB)); replace BK319 := kb_ BK319 hb; replace BK320 := kb_ BK320 hb; replace BK321 := kb_ BK321 hb; replace HB := Aside0.mk (below_step oB hb); obtain ⟨Ao10, co10, eo10⟩ := Kd.S_slice HO324.out; subst eo10; have hnb11 := NB321_320.out; have hnc11 := NB320_321.out; obtain ⟨⟨_, _⟩, _, _⟩ := z2 BK321; obtain ⟨⟨_, _⟩, _, _⟩ := z2 BK319; obtain ⟨⟨_, _⟩, _, _⟩ := z2 BK320))
 refine bodyPost_ret (results_cell_row rfl _ _ gb320 30 #[.slice Ao10 t322.length co10, .int .i64 a0_1] (0, 0) _ rfl (oP BK320) Tryz.underlying30 rfl (by kernel_rfl)) rfl ?_
 exact ⟨_, oE, by (with_reducible repeat (first | apply Kd.S_alloc | apply Kd.S_drewN | apply Kd.S_drew)); exact Kd.S_mono (Kd.S_far (p := ⟨gb320, 1, none⟩) (Kd.S_far (p := ⟨gb320, 0, none⟩) (Kd.S_far (p := ⟨gb321, 1, none⟩) (Kd.S_far (p := ⟨gb321, 0, none⟩) (Kd.S_types (Kd.S_types HO324.out BK321.out (by decide)) BK320.out (by decide)) (fun _ hk => hk.1.2) (.slice Ao10 t322.length co10)) (fun _ hk => hk.1.2) (.int .i64 a0_1)) (fun _ hk => hk.2) (.slice Ao10 t322.length co10)) (fun _ hk => hk.2) (.int .i64 a0_1)) (fun _ hk => trivial), oB⟩

end Go.Proofs.YtolkhimbfegkkaaGreat.P
