-- By this session's own program (wip/myprint.py) out of the translation; Lean checks it.
import Derived.Test.YtkcfmbggdkkfeaaGreatDoorPx0
import Derived.Test.YtkcfmbggdkkfeaaGreatDoorPx1
import Derived.Test.YtkcfmbggdkkfeaaGreatDoorPx4
namespace Go.Proofs.YtkcfmbggdkkfeaaGreatDoor.P
open Go.RowKit Go.Proofs.YtkcfmbggdkkfeaaGreatDoorW.PrintWords Go.Proofs.YtkcfmbggdkkfeaaGreatDoorW.PrintLast Go.Proofs.YtkcfmbggdkkfeaaGreatDoorW.PrintMore
attribute [local go_sem] max2_int min2_int max_two min_two max_three min_three max_four min_four   -- for this text's walks alone
set_option linter.unusedVariables false
set_option linter.unusedSimpArgs false

/-! ### impl_spotOf: function 57 -/
def impl_spotOf.f (k : Nat) (l0_0 : List (S51)) (a0_1 : Int) (a1 : ByteArray) : Option (Int × Int × Int × List Int × (List (S65)) × (List (S71)) × ByteArray × Int) := (impl_ParentOf.f k a1).bind fun bt333 => ((impl_Stat.f k l0_0 a0_1 bt333.1).bind fun bt336 => (if bt336.2.2.2.2.2.2 = 0 then (if bt336.2.1 = 2 then (some (bt336.1, bt336.2.1, bt336.2.2.1, bt336.2.2.2.1, bt336.2.2.2.2.1, bt336.2.2.2.2.2.1, bt333.2.1, 0)) else (some (0, 0, 0, ([] : List Int), ([] : List (S65)), ([] : List (S71)), (⟨#[]⟩ : ByteArray), 3))) else (some (0, 0, 0, ([] : List Int), ([] : List (S65)), ([] : List (S71)), (⟨#[]⟩ : ByteArray), bt336.2.2.2.2.2.2))))
set_option maxHeartbeats 8000000 in
set_option maxRecDepth 100000 in
theorem impl_spotOf.calls (k : Nat) (A0_0 : Option Addr) (c0_0 : Nat) (l0_0 : List (S51)) (a0_1 : Int) (a1 : ByteArray) (r1 : Int) (r2 : Int) (r3 : Int) (r4 : List Int) (r5 : List (S65)) (r6 : List (S71)) (r7 : ByteArray) (r8 : Int) (w : World) (hr0_0 : Kd.C k51 w A0_0 l0_0.length l0_0) (hc0_0 : l0_0.length ≤ c0_0) (h : impl_spotOf.f k l0_0 a0_1 a1 = some (r1, r2, r3, r4, r5, r6, r7, r8)) (hG : GOk w := by exact gk_ oB (by first | (with_reducible assumption) | assumption)) :
  Calls Tryz.prog 57 #[.agg #[.slice A0_0 l0_0.length c0_0, .int .i64 a0_1], .string a1] w fun e w' => ∃ v3_ v4_ v5_ : Value, e = .returned (.tuple #[.agg #[.int .i64 r1, .int .i64 r2, .int .i64 r3, v3_, v4_, v5_, .string r7], .int .i64 r8]) ∧ Kd.R (Kd.int .u8) 5 w' w.heap.size (fun _ => True) v3_ r4 ∧ Kd.R k65 65 w' w.heap.size (fun _ => True) v4_ r5 ∧ Kd.R k71 71 w' w.heap.size (fun _ => True) v5_ r6 ∧ Below w.heap.size w w' := by
 have HG := Aside0.mk hG
 clear hG
 have hu26 := Tryz.underlying26
 have hu84 := Tryz.underlying84
 have hu51 := Tryz.underlying51
 have HR0_0 := Aside0.mk hr0_0
 have HC0_0 := Aside0.mk hc0_0
 clear hr0_0 hc0_0
 have HB := Aside0.mk (Below.refl w.heap.size w)
 unfold impl_spotOf.f at h
 have H := h
 clear h
 replace H := bA H
 obtain ⟨⟨t333, t334, t335⟩, A3, H⟩ := H
 try dsimp only at H
 replace H := bA H
 obtain ⟨⟨t336, t337, t338, t339, t342, t345, t348⟩, A4, H⟩ := H
 try dsimp only at H
 by_cases c5 : t348 = 0
 ·rw [if_pos c5] at H
  have c5b0 : (t348 == 0) = true := beq_iff_eq.mpr c5
  have c5b1 : (t348 != 0) = false := bne_eq_false_iff_eq.mpr c5
  clear c5
  by_cases c6 : t337 = 2
  ·rw [if_pos c6] at H
   have c6b0 : (t337 == 2) = true := beq_iff_eq.mpr c6
   have c6b1 : (t337 != 2) = false := bne_eq_false_iff_eq.mpr c6
   clear c6
   simp only [Option.some.injEq, Prod.mk.injEq] at H
   obtain ⟨rfl, rfl, rfl, rfl, rfl, rfl, rfl, rfl⟩ := H
   go_enter Tryz.func57, Tryz.ntmps57
   go_wp2_with (first | ((with_reducible refine gate_dst (N := 2) rfl ?_); refine bx_ 2 #[.slice A0_0 l0_0.length c0_0, .int .i64 a0_1] 26 ?_; intro gb331 hg w7 hbox hb; have BK331 := Aside0.mk (hbox); have GW331 := gs_ hg; replace HB := Aside0.mk (below_step oB hb); clear hb hbox hg) | ((with_reducible refine gate_dst (N := 4) rfl ?_); refine bx_ 4 #[.int .i64 0, .int .i64 0, .int .i64 0, .slice none 0 0, .slice none 0 0, .slice none 0 0, .string (⟨#[]⟩ : ByteArray)] 84 ?_; intro gb332 hg w8 hbox hb; have BK332 := Aside0.mk (hbox); have GW332 := gs_ hg; have NB331_332 := nl_ hg BK331; have NB332_331 := nr_ hg BK331; replace BK331 := kb_ BK331 hb; replace HB := Aside0.mk (below_step oB hb); clear hb hbox hg) | ((with_reducible refine gate_callee (f := 78) rfl ?_); refine gl_ 13 Tryz.func78 (impl_ParentOf.calls k a1 t333 t334 t335 _ A3.out) ?_; rintro e w9 ⟨rfl, hb⟩; refine ⟨_, rfl, ?_⟩; replace BK331 := kb_ BK331 hb; replace BK332 := kb_ BK332 hb; replace HB := Aside0.mk (below_step oB hb); have hnb10 := NB331_332.out; have hnc10 := NB332_331.out; obtain ⟨⟨_, _⟩, _, _⟩ := z2 BK331) | ((with_reducible refine gate_callee (f := 28) rfl ?_); refine gl_ 20 Tryz.func28 (impl_Stat.calls k _ _ l0_0 a0_1 t333 t336 t337 t338 t339 t342 t345 t348 _ (kC HR0_0) HC0_0.out A4.out) ?_; rintro e w12 ⟨v340, v343, v346, rfl, ho0, ho1, ho2, hb⟩; refine ⟨_, rfl, ?_⟩; have HO341 := Aside0.mk (Kd.R_lower ho0 (below_size oB)); have HO344 := Aside0.mk (Kd.R_lower ho1 (below_size oB)); have HO347 := Aside0.mk (Kd.R_lower ho2 (below_size oB)); replace BK331 := kb_ BK331 hb; replace BK332 := kb_ BK332 hb; replace HB := Aside0.mk (below_step oB hb); (try clear ho1); (try clear ho2)) | ((with_reducible refine gate_dst (N := 9) rfl ?_); refine bx_ 9 #[.int .i64 0, .int .i64 0, .int .i64 0, .slice none 0 0, .slice none 0 0, .slice none 0 0] 51 ?_; intro gb349 hg w13 hbox hb; have BK349 := Aside0.mk (hbox); have GW349 := gs_ hg; have NB331_349 := nl_ hg BK331; have NB349_331 := nr_ hg BK331; have NB332_349 := nl_ hg BK332; have NB349_332 := nr_ hg BK332; replace HO341 := kr_ HO341 hb; replace HO344 := kr_ HO344 hb; replace HO347 := kr_ HO347 hb; replace BK331 := kb_ BK331 hb; replace BK332 := kb_ BK332 hb; replace HB := Aside0.mk (below_step oB hb); clear hb hbox hg; have hnb14 := NB349_331.out; have hnc14 := NB331_349.out; have hnb15 := NB349_332.out; have hnc15 := NB332_349.out; obtain ⟨⟨_, _, _, _, _, _⟩, _, _, _, _, _, _⟩ := z6 BK349; obtain ⟨Ao17, co17, eo17⟩ := Kd.R_slice HO341.out; subst eo17; obtain ⟨Ao18, co18, eo18⟩ := Kd.R_slice HO344.out; subst eo18; obtain ⟨Ao19, co19, eo19⟩ := Kd.R_slice HO347.out; subst eo19; obtain ⟨⟨_, _, _, _, _, _, _⟩, _, _, _, _, _, _, _⟩ := z7 BK332))
   refine bodyPost_ret (results_ct rfl _ _ gb332 84 #[.int .i64 t336, .int .i64 t337, .int .i64 t338, .slice Ao17 t339.length co17, .slice Ao18 t342.length co18, .slice Ao19 t345.length co19, .string t334] (0, 0) _ rfl (oP BK332) Tryz.underlying84 rfl (by kernel_rfl)) rfl ?_
   exact ⟨_, _, _, oE, by (with_reducible repeat (first | apply Kd.R_alloc | apply Kd.R_drewN | apply Kd.R_drew)); exact Kd.R_mono (Kd.R_far (p := ⟨gb332, 6, none⟩) (Kd.R_far (p := ⟨gb332, 5, none⟩) (Kd.R_far (p := ⟨gb332, 4, none⟩) (Kd.R_far (p := ⟨gb332, 3, none⟩) (Kd.R_far (p := ⟨gb332, 2, none⟩) (Kd.R_far (p := ⟨gb332, 1, none⟩) (Kd.R_far (p := ⟨gb332, 0, none⟩) (Kd.R_far (p := ⟨gb349, 5, none⟩) (Kd.R_far (p := ⟨gb349, 4, none⟩) (Kd.R_far (p := ⟨gb349, 3, none⟩) (Kd.R_far (p := ⟨gb349, 2, none⟩) (Kd.R_far (p := ⟨gb349, 1, none⟩) (Kd.R_far (p := ⟨gb349, 0, none⟩) (Kd.R_types (Kd.R_types HO341.out BK349.out (by decide)) BK332.out (by decide)) (fun _ hk => hk.1.2) (.int .i64 t336)) (fun _ hk => hk.1.2) (.int .i64 t337)) (fun _ hk => hk.1.2) (.int .i64 t338)) (fun _ hk => hk.1.2) (.slice Ao17 t339.length co17)) (fun _ hk => hk.1.2) (.slice Ao18 t342.length co18)) (fun _ hk => hk.1.2) (.slice Ao19 t345.length co19)) (fun _ hk => hk.2) (.int .i64 t336)) (fun _ hk => hk.2) (.int .i64 t337)) (fun _ hk => hk.2) (.int .i64 t338)) (fun _ hk => hk.2) (.slice Ao17 t339.length co17)) (fun _ hk => hk.2) (.slice Ao18 t342.length co18)) (fun _ hk => hk.2) (.slice Ao19 t345.length co19)) (fun _ hk => hk.2) (.string t334)) (fun _ hk => trivial), by (with_reducible repeat (first | apply Kd.R_alloc | apply Kd.R_drewN | apply Kd.R_drew)); exact Kd.R_mono (Kd.R_far (p := ⟨gb332, 6, none⟩) (Kd.R_far (p := ⟨gb332, 5, none⟩) (Kd.R_far (p := ⟨gb332, 4, none⟩) (Kd.R_far (p := ⟨gb332, 3, none⟩) (Kd.R_far (p := ⟨gb332, 2, none⟩) (Kd.R_far (p := ⟨gb332, 1, none⟩) (Kd.R_far (p := ⟨gb332, 0, none⟩) (Kd.R_far (p := ⟨gb349, 5, none⟩) (Kd.R_far (p := ⟨gb349, 4, none⟩) (Kd.R_far (p := ⟨gb349, 3, none⟩) (Kd.R_far (p := ⟨gb349, 2, none⟩) (Kd.R_far (p := ⟨gb349, 1, none⟩) (Kd.R_far (p := ⟨gb349, 0, none⟩) (Kd.R_types (Kd.R_types HO344.out BK349.out (by decide)) BK332.out (by decide)) (fun _ hk => hk.1.2) (.int .i64 t336)) (fun _ hk => hk.1.2) (.int .i64 t337)) (fun _ hk => hk.1.2) (.int .i64 t338)) (fun _ hk => hk.1.2) (.slice Ao17 t339.length co17)) (fun _ hk => hk.1.2) (.slice Ao18 t342.length co18)) (fun _ hk => hk.1.2) (.slice Ao19 t345.length co19)) (fun _ hk => hk.2) (.int .i64 t336)) (fun _ hk => hk.2) (.int .i64 t337)) (fun _ hk => hk.2) (.int .i64 t338)) (fun _ hk => hk.2) (.slice Ao17 t339.length co17)) (fun _ hk => hk.2) (.slice Ao18 t342.length co18)) (fun _ hk => hk.2) (.slice Ao19 t345.length co19)) (fun _ hk => hk.2) (.string t334)) (fun _ hk => trivial), by (with_reducible repeat (first | apply Kd.R_alloc | apply Kd.R_drewN | apply Kd.R_drew)); exact Kd.R_mono (Kd.R_far (p := ⟨gb332, 6, none⟩) (Kd.R_far (p := ⟨gb332, 5, none⟩) (Kd.R_far (p := ⟨gb332, 4, none⟩) (Kd.R_far (p := ⟨gb332, 3, none⟩) (Kd.R_far (p := ⟨gb332, 2, none⟩) (Kd.R_far (p := ⟨gb332, 1, none⟩) (Kd.R_far (p := ⟨gb332, 0, none⟩) (Kd.R_far (p := ⟨gb349, 5, none⟩) (Kd.R_far (p := ⟨gb349, 4, none⟩) (Kd.R_far (p := ⟨gb349, 3, none⟩) (Kd.R_far (p := ⟨gb349, 2, none⟩) (Kd.R_far (p := ⟨gb349, 1, none⟩) (Kd.R_far (p := ⟨gb349, 0, none⟩) (Kd.R_types (Kd.R_types HO347.out BK349.out (by decide)) BK332.out (by decide)) (fun _ hk => hk.1.2) (.int .i64 t336)) (fun _ hk => hk.1.2) (.int .i64 t337)) (fun _ hk => hk.1.2) (.int .i64 t338)) (fun _ hk => hk.1.2) (.slice Ao17 t339.length co17)) (fun _ hk => hk.1.2) (.slice Ao18 t342.length co18)) (fun _ hk => hk.1.2) (.slice Ao19 t345.length co19)) (fun _ hk => hk.2) (.int .i64 t336)) (fun _ hk => hk.2) (.int .i64 t337)) (fun _ hk => hk.2) (.int .i64 t338)) (fun _ hk => hk.2) (.slice Ao17 t339.length co17)) (fun _ hk => hk.2) (.slice Ao18 t342.length co18)) (fun _ hk => hk.2) (.slice Ao19 t345.length co19)) (fun _ hk => hk.2) (.string t334)) (fun _ hk => trivial), oB⟩
  ·rw [if_neg c6] at H
   have c6b0 : (t337 == 2) = false := beq_eq_false_iff_ne.mpr c6
   have c6b1 : (t337 != 2) = true := bne_iff_ne.mpr c6
   simp only [Option.some.injEq, Prod.mk.injEq] at H
   obtain ⟨rfl, rfl, rfl, rfl, rfl, rfl, rfl, rfl⟩ := H
   go_enter Tryz.func57, Tryz.ntmps57
   go_wp2_with (first | ((with_reducible refine gate_dst (N := 2) rfl ?_); refine bx_ 2 #[.slice A0_0 l0_0.length c0_0, .int .i64 a0_1] 26 ?_; intro gb331 hg w21 hbox hb; have BK331 := Aside0.mk (hbox); have GW331 := gs_ hg; replace HB := Aside0.mk (below_step oB hb); clear hb hbox hg) | ((with_reducible refine gate_dst (N := 4) rfl ?_); refine bx_ 4 #[.int .i64 0, .int .i64 0, .int .i64 0, .slice none 0 0, .slice none 0 0, .slice none 0 0, .string (⟨#[]⟩ : ByteArray)] 84 ?_; intro gb332 hg w22 hbox hb; have BK332 := Aside0.mk (hbox); have GW332 := gs_ hg; have NB331_332 := nl_ hg BK331; have NB332_331 := nr_ hg BK331; replace BK331 := kb_ BK331 hb; replace HB := Aside0.mk (below_step oB hb); clear hb hbox hg) | ((with_reducible refine gate_callee (f := 78) rfl ?_); refine gl_ 13 Tryz.func78 (impl_ParentOf.calls k a1 t333 t334 t335 _ A3.out) ?_; rintro e w23 ⟨rfl, hb⟩; refine ⟨_, rfl, ?_⟩; replace BK331 := kb_ BK331 hb; replace BK332 := kb_ BK332 hb; replace HB := Aside0.mk (below_step oB hb); have hnb24 := NB331_332.out; have hnc24 := NB332_331.out; obtain ⟨⟨_, _⟩, _, _⟩ := z2 BK331) | ((with_reducible refine gate_callee (f := 28) rfl ?_); refine gl_ 20 Tryz.func28 (impl_Stat.calls k _ _ l0_0 a0_1 t333 t336 t337 t338 t339 t342 t345 t348 _ (kC HR0_0) HC0_0.out A4.out) ?_; rintro e w26 ⟨v340, v343, v346, rfl, ho0, ho1, ho2, hb⟩; refine ⟨_, rfl, ?_⟩; have HO341 := Aside0.mk (Kd.R_lower ho0 (below_size oB)); have HO344 := Aside0.mk (Kd.R_lower ho1 (below_size oB)); have HO347 := Aside0.mk (Kd.R_lower ho2 (below_size oB)); replace BK331 := kb_ BK331 hb; replace BK332 := kb_ BK332 hb; replace HB := Aside0.mk (below_step oB hb); (try clear ho1); (try clear ho2)) | ((with_reducible refine gate_dst (N := 9) rfl ?_); refine bx_ 9 #[.int .i64 0, .int .i64 0, .int .i64 0, .slice none 0 0, .slice none 0 0, .slice none 0 0] 51 ?_; intro gb349 hg w27 hbox hb; have BK349 := Aside0.mk (hbox); have GW349 := gs_ hg; have NB331_349 := nl_ hg BK331; have NB349_331 := nr_ hg BK331; have NB332_349 := nl_ hg BK332; have NB349_332 := nr_ hg BK332; replace HO341 := kr_ HO341 hb; replace HO344 := kr_ HO344 hb; replace HO347 := kr_ HO347 hb; replace BK331 := kb_ BK331 hb; replace BK332 := kb_ BK332 hb; replace HB := Aside0.mk (below_step oB hb); clear hb hbox hg; have hnb28 := NB349_331.out; have hnc28 := NB331_349.out; have hnb29 := NB349_332.out; have hnc29 := NB332_349.out; obtain ⟨⟨_, _, _, _, _, _⟩, _, _, _, _, _, _⟩ := z6 BK349; obtain ⟨Ao31, co31, eo31⟩ := Kd.R_slice HO341.out; subst eo31; obtain ⟨Ao32, co32, eo32⟩ := Kd.R_slice HO344.out; subst eo32; obtain ⟨Ao33, co33, eo33⟩ := Kd.R_slice HO347.out; subst eo33; obtain ⟨⟨_, _, _, _, _, _, _⟩, _, _, _, _, _, _, _⟩ := z7 BK332))
   refine bodyPost_ret (results_ct rfl _ _ gb332 84 #[.int .i64 0, .int .i64 0, .int .i64 0, .slice none 0 0, .slice none 0 0, .slice none 0 0, .string (⟨#[]⟩ : ByteArray)] (0, 0) _ rfl (oP BK332) Tryz.underlying84 rfl (by kernel_rfl)) rfl ?_
   exact ⟨_, _, _, oE, by first | exact Kd.R_nil _ _ _ _ _ | exact Kd.N_nil _ _ _ _ _ | exact Kd.V_nil _ _ _ _ _ | exact Kd.Q_nil _ _ _ _ _ | exact Kd.S_nil _ _ _ _ _, by first | exact Kd.R_nil _ _ _ _ _ | exact Kd.N_nil _ _ _ _ _ | exact Kd.V_nil _ _ _ _ _ | exact Kd.Q_nil _ _ _ _ _ | exact Kd.S_nil _ _ _ _ _, by first | exact Kd.R_nil _ _ _ _ _ | exact Kd.N_nil _ _ _ _ _ | exact Kd.V_nil _ _ _ _ _ | exact Kd.Q_nil _ _ _ _ _ | exact Kd.S_nil _ _ _ _ _, oB⟩
 ·rw [if_neg c5] at H
  have c5b0 : (t348 == 0) = false := beq_eq_false_iff_ne.mpr c5
  have c5b1 : (t348 != 0) = true := bne_iff_ne.mpr c5
  simp only [Option.some.injEq, Prod.mk.injEq] at H
  obtain ⟨rfl, rfl, rfl, rfl, rfl, rfl, rfl, rfl⟩ := H
  go_enter Tryz.func57, Tryz.ntmps57
  go_wp2_with (first | ((with_reducible refine gate_dst (N := 2) rfl ?_); refine bx_ 2 #[.slice A0_0 l0_0.length c0_0, .int .i64 a0_1] 26 ?_; intro gb331 hg w35 hbox hb; have BK331 := Aside0.mk (hbox); have GW331 := gs_ hg; replace HB := Aside0.mk (below_step oB hb); clear hb hbox hg) | ((with_reducible refine gate_dst (N := 4) rfl ?_); refine bx_ 4 #[.int .i64 0, .int .i64 0, .int .i64 0, .slice none 0 0, .slice none 0 0, .slice none 0 0, .string (⟨#[]⟩ : ByteArray)] 84 ?_; intro gb332 hg w36 hbox hb; have BK332 := Aside0.mk (hbox); have GW332 := gs_ hg; have NB331_332 := nl_ hg BK331; have NB332_331 := nr_ hg BK331; replace BK331 := kb_ BK331 hb; replace HB := Aside0.mk (below_step oB hb); clear hb hbox hg) | ((with_reducible refine gate_callee (f := 78) rfl ?_); refine gl_ 13 Tryz.func78 (impl_ParentOf.calls k a1 t333 t334 t335 _ A3.out) ?_; rintro e w37 ⟨rfl, hb⟩; refine ⟨_, rfl, ?_⟩; replace BK331 := kb_ BK331 hb; replace BK332 := kb_ BK332 hb; replace HB := Aside0.mk (below_step oB hb); have hnb38 := NB331_332.out; have hnc38 := NB332_331.out; obtain ⟨⟨_, _⟩, _, _⟩ := z2 BK331) | ((with_reducible refine gate_callee (f := 28) rfl ?_); refine gl_ 20 Tryz.func28 (impl_Stat.calls k _ _ l0_0 a0_1 t333 t336 t337 t338 t339 t342 t345 t348 _ (kC HR0_0) HC0_0.out A4.out) ?_; rintro e w40 ⟨v340, v343, v346, rfl, ho0, ho1, ho2, hb⟩; refine ⟨_, rfl, ?_⟩; have HO341 := Aside0.mk (Kd.R_lower ho0 (below_size oB)); have HO344 := Aside0.mk (Kd.R_lower ho1 (below_size oB)); have HO347 := Aside0.mk (Kd.R_lower ho2 (below_size oB)); replace BK331 := kb_ BK331 hb; replace BK332 := kb_ BK332 hb; replace HB := Aside0.mk (below_step oB hb); (try clear ho1); (try clear ho2)) | ((with_reducible refine gate_dst (N := 9) rfl ?_); refine bx_ 9 #[.int .i64 0, .int .i64 0, .int .i64 0, .slice none 0 0, .slice none 0 0, .slice none 0 0] 51 ?_; intro gb349 hg w41 hbox hb; have BK349 := Aside0.mk (hbox); have GW349 := gs_ hg; have NB331_349 := nl_ hg BK331; have NB349_331 := nr_ hg BK331; have NB332_349 := nl_ hg BK332; have NB349_332 := nr_ hg BK332; replace HO341 := kr_ HO341 hb; replace HO344 := kr_ HO344 hb; replace HO347 := kr_ HO347 hb; replace BK331 := kb_ BK331 hb; replace BK332 := kb_ BK332 hb; replace HB := Aside0.mk (below_step oB hb); clear hb hbox hg; have hnb42 := NB349_331.out; have hnc42 := NB331_349.out; have hnb43 := NB349_332.out; have hnc43 := NB332_349.out; obtain ⟨⟨_, _, _, _, _, _⟩, _, _, _, _, _, _⟩ := z6 BK349; obtain ⟨Ao45, co45, eo45⟩ := Kd.R_slice HO341.out; subst eo45; obtain ⟨Ao46, co46, eo46⟩ := Kd.R_slice HO344.out; subst eo46; obtain ⟨Ao47, co47, eo47⟩ := Kd.R_slice HO347.out; subst eo47; obtain ⟨⟨_, _, _, _, _, _, _⟩, _, _, _, _, _, _, _⟩ := z7 BK332))
  refine bodyPost_ret (results_ct rfl _ _ gb332 84 #[.int .i64 0, .int .i64 0, .int .i64 0, .slice none 0 0, .slice none 0 0, .slice none 0 0, .string (⟨#[]⟩ : ByteArray)] (0, 0) _ rfl (oP BK332) Tryz.underlying84 rfl (by kernel_rfl)) rfl ?_
  exact ⟨_, _, _, oE, by first | exact Kd.R_nil _ _ _ _ _ | exact Kd.N_nil _ _ _ _ _ | exact Kd.V_nil _ _ _ _ _ | exact Kd.Q_nil _ _ _ _ _ | exact Kd.S_nil _ _ _ _ _, by first | exact Kd.R_nil _ _ _ _ _ | exact Kd.N_nil _ _ _ _ _ | exact Kd.V_nil _ _ _ _ _ | exact Kd.Q_nil _ _ _ _ _ | exact Kd.S_nil _ _ _ _ _, by first | exact Kd.R_nil _ _ _ _ _ | exact Kd.N_nil _ _ _ _ _ | exact Kd.V_nil _ _ _ _ _ | exact Kd.Q_nil _ _ _ _ _ | exact Kd.S_nil _ _ _ _ _, oB⟩

-- NOT PRINTED: function 79 (slices_IndexFunc_Ent)

-- NOT PRINTED: function 111 (impl_Ent_111)

-- NOT PRINTED: function 150 (slices_Reverse_Ent)

-- NOT PRINTED: function 135 (impl_Ent_135)

-- NOT PRINTED: function 112 (impl_Ent_112)

/-! ### slices_Insert_Ent: function 81 -/
/-- copy of elements of several cells. -/
theorem run_copyZEnt {P : Program} (w : World) (dT sT ty elem : TypeId) (b o dLen dCap : Nat) (a : Addr) (sLen sCap n : Nat) (cs : List Value)
  (hu : P.underlying dT = some (.slice elem)) (hs : (P.info? elem).map (·.size) = some 2) (hm : Nat.min sLen dLen = n) (hn : cs.length = n * 2)
  (hsrc : ∀ j v, cs[j]? = some v → w.cell? (a.add j) = some v) (hc : ∀ j, j < cs.length → (w.cell? ⟨b, o + j, none⟩).isSome = true) (hf : ∀ j, j < cs.length → w.frozen? ⟨b, o + j, none⟩ = false) (h1 : ∀ v ∈ cs, v.oneCell' = true) :
  (Builtin.copy_ #[dT, sT] ty #[.slice (some ⟨b, o, none⟩) dLen dCap, .slice (some a) sLen sCap]).run P w = .ok (goInt n) (w.setCells b o cs) := by
 have hl := run_loadCells_list (P := P) w a cs hsrc
 have hst := run_storeCells_cells (P := P) b o cs 0 w (by simpa using hc) (by simpa using hf) h1
 cases hq : P.info? elem with
 | none => simp [hq] at hs
 | some i =>
  have hi : i.size = 2 := by simpa [hq] using hs
  simp [Builtin.copy_, run_underlying hu, Builtin.lenOf, Builtin.firstCells, sizeOf, typeInfo, hq, hi, hm, ← hn, hl, hst]
theorem wpList_copyZEnt {P : Program} (w : World) {ops : Array Oper} {rest : List Oper} {o : Oper} {a : Act} {Q : Exit → Act → World → Prop} (hgd : o.guard = none) (d s : Operand) (t t' : TypeId)
  (ho : o.op = .call { callee := .builtin .copy, args := #[d, s], argTypes := #[t, t'] }) (v u : Value) (hd : a.eval d = v) (hs : a.eval s = u) {v' : Value} {w' : World}
  (hr : (Builtin.copy_ #[t, t'] o.type #[v, u]).run P w = .ok v' w') (h : wpList P ops Q rest (a.put o.dst v') w') : wpList P ops Q (o :: rest) a w :=
 wpList_plain hgd fun K hK => by
  unfold Oper.wp execOp
  simp only [ho, resolve, invoke, builtin, Sem.run_bind, Sem.run_pure, Result.andThen_ok, List.map_toArray, List.map_cons, List.map_nil, hd, hs, hr]
  exact hK _ _ h
theorem step_copyZEnt {P : Program} {ops : Array Oper} {o : Oper} {a : Act} {w : World} {K : Act → World → Prop} {Q : Exit → Act → World → Prop} {E : Prop}
  (hg : o.guard = none) (d x : Operand) (dT sT : TypeId) (hop : o.op = Op.call { callee := Callee.builtin Builtin.copy, args := #[d, x], argTypes := #[dT, sT] })
  (v u : Value) (hd : a.eval d = v) (hx : a.eval x = u) {v' : Value} {w' : World} (hr : (Builtin.copy_ #[dT, sT] o.type #[v, u]).run P w = .ok v' w') (hK : K (a.put o.dst v') w') :
  if Region.wanted o (yielded ops a.tmps) = true then Oper.wp P o a w K Q else E := by
 have hw : Region.wanted o (yielded ops a.tmps) = true := by simp [Region.wanted, hg]
 rw [if_pos hw]
 unfold Oper.wp
 simp [execOp, hop, resolve, invoke, builtin, hd, hx, hr, Result.andThen]
 exact hK
set_option maxHeartbeats 4000000 in
set_option maxRecDepth 100000 in
theorem insEnt_shift.calls (g n c i vb : Nat) (cur : Array Value) (inner vs : List Value) (w : World) (hi : i < n) (hroom : n + 1 ≤ c) (hc63 : c ≤ 9223372036854775807) (hvb : vb ≠ g)
  (hb : w.heap[g]? = some (.cells cur 65 (0, 0))) (hcs : cur.size = c * 2) (hin : cur.toList.take (n * 2) = inner) (hv : w.heap[vb]? = some (.cells vs.toArray 65 (0, 0))) (hvl : vs.length = 2)
  (h1c : ∀ u ∈ inner, u.oneCell' = true) (h1v : ∀ u ∈ vs, u.oneCell' = true) :
  Calls Tryz.prog 81 #[.slice (some ⟨g, 0, none⟩) n c, .int .i64 i, .slice (some ⟨vb, 0, none⟩) 1 1] w fun e w' =>
   e = .returned (.slice (some ⟨g, 0, none⟩) (n + 1) c) ∧ w' = (w.drew.setCells g ((i + 1) * 2) (inner.drop (i * 2))).setCells g (i * 2) vs := by
 have hu := Tryz.underlying48
 have mixed : Tryz.prog.follows .mixedOrders = true := by kernel_rfl
 have hz1 : ¬ ((1 : Int) = 0) := by omega
 have hz2 : ¬ ((i : Int) = (n : Int)) := by omega
 have hsz : (Tryz.prog.info? 65).map (·.size) = some 2 := by kernel_rfl
 have hil : inner.length = n * 2 := by rw [← hin, List.length_take, Array.length_toList]; omega
 have hdl : (inner.drop (i * 2)).length = (n - i) * 2 := by rw [List.length_drop, hil]; omega
 have hcur : ∀ j, w.cell? ⟨g, j, none⟩ = cur[j]? := fun j => blk_cell hb j
 have hcell : ∀ j u, inner[j]? = some u → w.cell? ⟨g, j, none⟩ = some u := fun j u hj => by
  rw [hcur, ← hj, ← hin, List.getElem?_take]
  have : j < inner.length := (List.getElem?_eq_some_iff.1 hj).1
  rw [if_pos (by omega), Array.getElem?_toList]
 have hsp : ∀ j, j < (n + 1) * 2 → (w.cell? ⟨g, j, none⟩).isSome = true := fun j hj => by rw [hcur, Array.getElem?_eq_getElem (by omega)]; rfl
 have hfz : ∀ j, w.frozen? ⟨g, j, none⟩ = false := fun j => blk_frozen hb j
 have hvc : ∀ j u, vs[j]? = some u → w.cell? ⟨vb, j, none⟩ = some u := fun j u hj => by rw [blk_cell hv j, List.getElem?_toArray, hj]
 have hov : ∀ lb cb, (callFunc 111 #[.slice (some ⟨vb, 0, none⟩) 1 1, .slice (some ⟨g, (i + 1) * 2, none⟩) lb cb]).run Tryz.prog w = .ok (.value (.bool false)) w := fun lb cb => by
  rw [run_callFunc_extern Tryz.func111 (by kernel_rfl) (by kernel_rfl) (by kernel_rfl) (e := Extern.SlicesOverlaps.overlaps #[48, 48] #[4]) (by kernel_rfl),
   Lib.run_overlaps_apart w 48 4 65 Tryz.underlying48 2 Tryz.sizeOf65 ⟨vb, 0, none⟩ ⟨g, (i + 1) * 2, none⟩ 1 1 lb cb hvb 65 65 vs.length cur.size (by simp [World.shape?, hv]) (by simp [World.shape?, hb]) (by omega) (blk_frozen hv 0) (blk_frozen hv _)]
  rfl
 have hw1 : IntKind.i64.wrap ((i : Int) + (1 : Int)) = (i : Int) + (1 : Int) := by rw [IntKind.wrap_i64]; omega
 have hw2 : IntKind.i64.wrap ((n : Int) + (1 : Int)) = (n : Int) + (1 : Int) := by rw [IntKind.wrap_i64]; omega
 have hb1 : (0 : Int) ≤ (i : Int) + (1 : Int) := by omega
 have hin' : i ≤ n := by omega
 have htn : ((i : Int) + (1 : Int)).toNat = i + 1 := by omega
 have htn2 : ((n : Int) + (1 : Int)).toNat = n + 1 := by omega
 have hb2 : ¬ (c = i + 1) := by omega
 have hb3 : (i : Int) ≤ (n : Int) + (1 : Int) := by omega
 have hb4 : ¬ (c = i) := by omega
 have hcp1 : ∀ ty dl dc sl sc, dl = n - i → sl = n + 1 - i → (Builtin.copy_ #[48, 48] ty #[.slice (some ⟨g, (i + 1) * 2, none⟩) dl dc, .slice (some ⟨g, i * 2, none⟩) sl sc]).run Tryz.prog w.drew = .ok (goInt ((n - i : Nat) : Int)) (w.drew.setCells g ((i + 1) * 2) (inner.drop (i * 2))) := fun ty dl dc sl sc hdl_ hsl_ =>
  run_copyZEnt w.drew _ _ ty 65 g ((i + 1) * 2) dl dc ⟨g, i * 2, none⟩ sl sc (n - i) (inner.drop (i * 2)) Tryz.underlying48 hsz (by simp only [Nat.min_def]; split <;> omega) hdl
   (fun j v hj => by rw [Addr.add_lit]; exact hcell (i * 2 + j) v (by rwa [List.getElem?_drop] at hj))
   (fun j hj => hsp _ (by omega)) (fun j hj => hfz _) (fun v hv => h1c v (List.mem_of_mem_drop hv))
 obtain ⟨W1, hW1⟩ : ∃ W1, W1 = w.drew.setCells g ((i + 1) * 2) (inner.drop (i * 2)) := ⟨_, rfl⟩
 obtain ⟨cur1, hh1, hs1, _⟩ := setCells_row (inner.drop (i * 2)) ((i + 1) * 2) w.drew cur hb (by omega)
 have hcp2 : ∀ (W : World), W.heap = W1.heap → ∀ ty dc, (Builtin.copy_ #[48, 48] ty #[.slice (some ⟨g, i * 2, none⟩) (n + 1 - i) dc, .slice (some ⟨vb, 0, none⟩) 1 1]).run Tryz.prog W = .ok (goInt 1) (W.setCells g (i * 2) vs) := fun W hWh ty dc =>
  run_copyZEnt W _ _ ty 65 g (i * 2) (n + 1 - i) dc ⟨vb, 0, none⟩ 1 1 1 vs Tryz.underlying48 hsz (by simp only [Nat.min_def]; split <;> omega) (by omega)
   (fun j v hj => by
    rw [Addr.add_lit, Nat.zero_add]
    rw [show W.cell? ⟨vb, j, none⟩ = w.cell? ⟨vb, j, none⟩ from by rw [blk_cell (w := W) (g := vb) (cs := vs.toArray) (t := 65) (by rw [hWh, hW1, setCells_far _ _ _ hvb]; exact hv) j, blk_cell hv j]]
    exact hvc j v hj)
   (fun j hj => by rw [blk_cell (w := W) (g := g) (cs := cur1) (t := 65) (by rw [hWh, hW1]; exact hh1), Array.getElem?_eq_getElem (by omega)]; rfl) (fun j hj => blk_frozen (w := W) (g := g) (cs := cur1) (t := 65) (by rw [hWh, hW1]; exact hh1) _) h1v
 rw [← hW1] at hcp1
 go_enter Tryz.func81, Tryz.ntmps81
 go_wp2_with (simp only [hov])
 go_region_law_o (refine step_copyZEnt rfl _ _ 48 48 rfl (.slice (some ⟨g, (i + 1) * 2, none⟩) (n + 1 - (i + 1)) (c - (i + 1))) (.slice (some ⟨g, i * 2, none⟩) (n + 1 - i) (c - i)) (by simp [Act.eval, Act.put]) (by simp [Act.eval, Act.put]) (hcp1 _ _ _ _ _ (by omega) (by omega)) ?_)
 go_wp2_with (at_builtin; refine wpList_copyZEnt _ rfl _ _ 48 48 rfl _ _ rfl rfl (hcp2 _ rfl _ _) ?_)
 go_ret
 first | exact ⟨rfl, rfl⟩ | exact ⟨rfl, by rw [hW1]⟩
theorem infoEnt : (Tryz.prog.info? 65).map (fun i => (i.zero, i.size, i.bytes)) = some (some (Value.agg #[.string ⟨#[]⟩, .int .i64 0]), 2, 24) := by kernel_rfl
theorem oneEnt (w : World) (vb : Nat) (vs : List Value) (hv : w.heap[vb]? = some (.cells vs.toArray 65 (0, 0))) (hvl : vs.length = 2) (h1v : ∀ u ∈ vs, u.oneCell' = true) : ReadsRow ((Kd.raw 2).K w) 2 w (some ⟨vb, 0, none⟩) 1 [vs] := by
 refine ⟨rfl, by decide, fun _ => ⟨⟨vb, 0, none⟩, rfl, fun j p hj => ?_⟩⟩
 cases j with
 | zero =>
  obtain rfl : vs = p := by simpa using hj
  refine ⟨vs, hvl, ⟨rfl, hvl, h1v⟩, fun i u hu => ?_⟩
  rw [Nat.zero_mul, Nat.zero_add, Addr.add_lit, Nat.zero_add, blk_cell hv i, List.getElem?_toArray, hu]
 | succ j => simp at hj
set_option maxHeartbeats 4000000 in
set_option maxRecDepth 100000 in
theorem insEnt_end.calls (A : Option Addr) (n c vb base : Nat) (rows : List (List Value)) (vs : List Value) (w0 w : World) (hn : rows.length = n)
  (hr : (Kd.raw 2).R 65 w base (fun k => some k = (Value.slice A n c).ownBlock ∨ w.heap.size ≤ k) (.slice A n c) rows) (hv : w.heap[vb]? = some (.cells vs.toArray 65 (0, 0))) (hvl : vs.length = 2) (h1v : ∀ u ∈ vs, u.oneCell' = true)
  (hB : Below base w0 w) (hbase : base ≤ w.heap.size) (hbig : (n + 1) * 24 ≤ 140737488355328) :
  Calls Tryz.prog 81 #[.slice A n c, .int .i64 n, .slice (some ⟨vb, 0, none⟩) 1 1] w fun e w' => ∃ v', e = .returned v' ∧ (Kd.raw 2).R 65 w' base (fun k => some k = (Value.slice A n c).ownBlock ∨ w.heap.size ≤ k) v' (rows ++ [vs]) ∧
   Below base w0 w' ∧ w.grownBy w' (Value.slice A n c).ownBlock ∧ (v'.ownBlock = (Value.slice A n c).ownBlock ∨ ∃ b, v'.ownBlock = some b ∧ w.heap.size ≤ b) := by
 have hu := Tryz.underlying48
 have hz1 : ¬ ((1 : Int) = 0) := by omega
 have ho := oneEnt w vb vs hv hvl h1v
 have hr' := hr
 obtain ⟨hok, inner, hown, hrep⟩ := hr'
 go_enter Tryz.func81, Tryz.ntmps81
 rcases A with _ | ad
 ·obtain ⟨rfl, rfl⟩ : n = 0 ∧ c = 0 := by
   rcases hown.2 with ⟨h1, h2⟩ | ⟨g', cap', cur, h1, _⟩
   ·injection h1 with _ a b; exact ⟨a, b⟩
   ·cases h1
  go_wp2_with (at_builtin; refine Kd.R_append_rows (Kd.raw 2) (Rr := (Kd.raw 2).K w) (w0 := w0) base rfl _ _ 48 65 (Value.agg #[.string ⟨#[]⟩, .int .i64 0]) 24 rfl hu infoEnt rfl (by decide) (by decide) _ rows [vs] (some ⟨vb, 0, none⟩) 1 1 _ (fun _ => False) rfl rfl hr ho (fun x cs h => h) (fun _ h => h.elim) (fun k hk => .inr hk) hB hbase (by omega) ?_; intro v1 w1 h1 h2 h3 h4)
  go_ret
  exact ⟨_, rfl, h1, h2, h3, h4⟩
 ·obtain ⟨g, rfl⟩ := Kd.R_head hr
  have hnc : n ≤ c := (Kd.R_reads' hr).2.1
  go_wp2_with (at_builtin; refine Kd.R_append_rows (Kd.raw 2) (Rr := (Kd.raw 2).K w) (w0 := w0) base rfl _ _ 48 65 (Value.agg #[.string ⟨#[]⟩, .int .i64 0]) 24 rfl hu infoEnt rfl (by decide) (by decide) _ rows [vs] (some ⟨vb, 0, none⟩) 1 1 _ (fun _ => False) rfl rfl hr ho (fun x cs h => h) (fun _ h => h.elim) (fun k hk => .inr hk) hB hbase (by omega) ?_; intro v1 w1 h1 h2 h3 h4)
  all_goals (go_ret; exact ⟨_, rfl, h1, h2, h3, h4⟩)
set_option maxHeartbeats 4000000 in
set_option maxRecDepth 100000 in
theorem insEnt_grow.calls (g n c i vb : Nat) (cur : Array Value) (inner vs : List Value) (w : World) (hi : i < n) (hnc : n ≤ c) (hroom : c < n + 1) (hbig : (n + 1) * 24 ≤ 140737488355328)
  (hb : w.heap[g]? = some (.cells cur 65 (0, 0))) (hcs : cur.size = c * 2) (hin : cur.toList.take (n * 2) = inner) (hv : w.heap[vb]? = some (.cells vs.toArray 65 (0, 0))) (hvl : vs.length = 2)
  (h1c : ∀ u ∈ inner, u.oneCell' = true) (h1v : ∀ u ∈ vs, u.oneCell' = true) :
  Calls Tryz.prog 81 #[.slice (some ⟨g, 0, none⟩) n c, .int .i64 i, .slice (some ⟨vb, 0, none⟩) 1 1] w fun e w' => ∃ (G : Nat) (ROW : Array Value), n + 1 ≤ G ∧ G ≤ 9223372036854775807 ∧ ROW.size = G * 2 ∧ ROW.toList.take (i * 2) = inner.take (i * 2) ∧
   e = .returned (.slice (some ⟨w.heap.size, 0, none⟩) (n + 1) G) ∧ w' = (((w.alloc (.cells ROW 65)).drew.setCells w.heap.size (i * 2) vs).drew).setCells w.heap.size ((i + 1) * 2) (inner.drop (i * 2)) := by
 have hu := Tryz.underlying48
 have mixed : Tryz.prog.follows .mixedOrders = true := by kernel_rfl
 obtain ⟨i0, hi0, hz0, hzs, hzb⟩ := info_parts infoEnt
 have hsz : (Tryz.prog.info? 65).map (·.size) = some 2 := by rw [hi0]; simp [hzs]
 have hz1 : ¬ ((1 : Int) = 0) := by omega
 have hz2 : ¬ ((i : Int) = (n : Int)) := by omega
 have hz3 : (c : Int) < (n : Int) + (1 : Int) := by omega
 have hil : inner.length = n * 2 := by rw [← hin, List.length_take, Array.length_toList]; omega
 have hdl : (inner.drop (i * 2)).length = (n - i) * 2 := by rw [List.length_drop, hil]; omega
 have hgw : g < w.heap.size := blk_lt hb
 have hvw : vb < w.heap.size := blk_lt hv
 have hcell : ∀ j u, inner[j]? = some u → w.cell? ⟨g, j, none⟩ = some u := fun j u hj => by
  rw [blk_cell hb j, ← hj, ← hin, List.getElem?_take]
  have : j < inner.length := (List.getElem?_eq_some_iff.1 hj).1
  rw [if_pos (by omega), Array.getElem?_toList]
 have hvc : ∀ j u, vs[j]? = some u → w.cell? ⟨vb, j, none⟩ = some u := fun j u hj => by rw [blk_cell hv j, List.getElem?_toArray, hj]
 have hkk : (n : Int) + (1 : Int) - (i : Int) = ((n + 1 - i : Nat) : Int) := by omega
 have hik : i + (n + 1 - i) = n + 1 := by omega
 have hold : (Builtin.firstCells i0.size i (.slice (some ⟨g, 0, none⟩) i c)).run Tryz.prog w.drew = .ok (inner.take (i * 2)).toArray w.drew := by
  rw [hzs]
  exact run_firstCells_some w.drew 2 i ⟨g, 0, none⟩ i c (inner.take (i * 2)) (by rw [List.length_take]; omega) (fun j v hj => by
   rw [Addr.add_lit, Nat.zero_add]
   rw [List.getElem?_take] at hj
   split at hj
   ·exact hcell j v hj
   ·cases hj)
 have hrz : ∀ ty, (Builtin.append_ #[48, 3] ty #[.slice (some ⟨g, 0, none⟩) i c, .int .i64 ((n : Int) + (1 : Int) - (i : Int))]).run Tryz.prog w =
   .ok (.slice (some ⟨w.heap.size, 0, none⟩) (n + 1) (grownCap w (n + 1) c 65)) (w.drew.alloc (.cells ((inner.take (i * 2)).toArray ++ Builtin.zeroCells (Value.agg #[.string ⟨#[]⟩, .int .i64 0]).cells (n + 1 - i) ++ Builtin.zeroCells (Value.agg #[.string ⟨#[]⟩, .int .i64 0]).cells (grownCap w (n + 1) c 65 - (n + 1))) 65)) := fun ty => by
  have h := Lib.run_append_grow_zeros w 48 3 ty 65 i0 _ .i64 .i64 hu Tryz.underlying3 hi0 hz0 (some ⟨g, 0, none⟩) i c (inner.take (i * 2)) hold (n + 1 - i) (by omega) (by omega) (by omega) (by omega) (by rw [hzb]; omega) (by rw [hzb, hik]; exact growslice_fits hroom hbig)
  rw [hik] at h
  rw [hkk]
  exact h
 obtain ⟨G, hG⟩ : ∃ G, G = grownCap w (n + 1) c 65 := ⟨_, rfl⟩
 have hGn : n + 1 ≤ G := by rw [hG]; exact grownCap_ge w _ _ _
 have hG63 : G ≤ 9223372036854775807 := by
  have := grownCap_le_maxLen w (n + 1) c 65 (by unfold maxLen; omega)
  rw [← hG] at this
  unfold maxLen at this
  omega
 obtain ⟨ROW, hROW⟩ : ∃ ROW : Array Value, ROW = (inner.take (i * 2)).toArray ++ Builtin.zeroCells (Value.agg #[.string ⟨#[]⟩, .int .i64 0]).cells (n + 1 - i) ++ Builtin.zeroCells (Value.agg #[.string ⟨#[]⟩, .int .i64 0]).cells (G - (n + 1)) := ⟨_, rfl⟩
 rw [← hG] at hrz
 rw [← hROW] at hrz
 have hzc : (Value.agg #[.string ⟨#[]⟩, .int .i64 0]).cells.size = 2 := rfl
 have hRl : ROW.size = G * 2 := by
  rw [hROW]
  simp only [Array.size_append, List.size_toArray, List.length_take, Builtin.zeroCells, Array.size_map, Array.size_range, hzc]
  omega
 have hRt : ROW.toList.take (i * 2) = inner.take (i * 2) := by
  rw [hROW, Array.toList_append, Array.toList_append, List.append_assoc, List.take_append_of_le_length (by rw [List.length_take]; omega), List.take_of_length_le (by rw [List.length_take]; omega)]
 have hblk : ∀ W : World, W.heap = (w.drew.alloc (.cells ROW 65)).heap → W.heap[w.heap.size]? = some (.cells ROW 65 (0, 0)) := fun W h => by rw [h]; exact blk_new w.drew _
 have hcpA : ∀ (W : World), W.heap = (w.drew.alloc (.cells ROW 65)).heap → ∀ ty dc, (Builtin.copy_ #[48, 48] ty #[.slice (some ⟨w.heap.size, i * 2, none⟩) (n + 1 - i) dc, .slice (some ⟨vb, 0, none⟩) 1 1]).run Tryz.prog W = .ok (goInt 1) (W.setCells w.heap.size (i * 2) vs) := fun W hWh ty dc =>
  run_copyZEnt W _ _ ty 65 w.heap.size (i * 2) (n + 1 - i) dc ⟨vb, 0, none⟩ 1 1 1 vs hu hsz (by simp only [Nat.min_def]; split <;> omega) (by omega)
   (fun j v hj => by
    rw [Addr.add_lit, Nat.zero_add, blk_cell (w := W) (g := vb) (cs := vs.toArray) (t := 65) (by rw [hWh]; exact blk_alloc (blk_drew hv) _) j, List.getElem?_toArray, hj])
   (fun j hj => by rw [blk_cell (hblk W hWh), Array.getElem?_eq_getElem (by omega)]; rfl) (fun j hj => blk_frozen (hblk W hWh) _) h1v
 obtain ⟨cur1, hh1, hs1, _⟩ := setCells_row vs (i * 2) (w.drew.alloc (.cells ROW 65)) ROW (blk_new w.drew _) (by omega)
 have hcpB : ∀ (W : World), W.heap = ((w.drew.alloc (.cells ROW 65)).setCells w.heap.size (i * 2) vs).heap → ∀ ty dl dc sl sc, dl = n - i → sl = n - i → (Builtin.copy_ #[48, 48] ty #[.slice (some ⟨w.heap.size, (i + 1) * 2, none⟩) dl dc, .slice (some ⟨g, i * 2, none⟩) sl sc]).run Tryz.prog W = .ok (goInt ((n - i : Nat) : Int)) (W.setCells w.heap.size ((i + 1) * 2) (inner.drop (i * 2))) := fun W hWh ty dl dc sl sc hdl_ hsl_ =>
  run_copyZEnt W _ _ ty 65 w.heap.size ((i + 1) * 2) dl dc ⟨g, i * 2, none⟩ sl sc (n - i) (inner.drop (i * 2)) hu hsz (by simp only [Nat.min_def]; split <;> omega) hdl
   (fun j v hj => by
    rw [Addr.add_lit]
    have h2 := hcell (i * 2 + j) v (by rwa [List.getElem?_drop] at hj)
    rw [blk_cell hb] at h2
    rw [blk_cell (w := W) (g := g) (cs := cur) (t := 65) (by rw [hWh, setCells_far _ _ _ (by omega)]; exact blk_alloc (blk_drew hb) _)]
    exact h2)
   (fun j hj => by rw [blk_cell (w := W) (g := w.heap.size) (cs := cur1) (t := 65) (by rw [hWh]; exact hh1), Array.getElem?_eq_getElem (by omega)]; rfl) (fun j hj => blk_frozen (w := W) (g := w.heap.size) (cs := cur1) (t := 65) (by rw [hWh]; exact hh1) _) (fun v hv => h1c v (List.mem_of_mem_drop hv))
 have hGi : ¬ (G = i) := by omega
 have hGim : ¬ (G = i + 1) := by omega
 have hci : ¬ (c = i) := by omega
 have hw1 : IntKind.i64.wrap ((i : Int) + (1 : Int)) = (i : Int) + (1 : Int) := by rw [IntKind.wrap_i64]; omega
 have hw2 : IntKind.i64.wrap ((n : Int) + (1 : Int)) = (n : Int) + (1 : Int) := by rw [IntKind.wrap_i64]; omega
 have hw3 : IntKind.i64.wrap ((n : Int) + (1 : Int) - (i : Int)) = (n : Int) + (1 : Int) - (i : Int) := by rw [IntKind.wrap_i64]; omega
 have hb1 : (0 : Int) ≤ (i : Int) + (1 : Int) := by omega
 have hin' : i ≤ n := by omega
 have htn : ((i : Int) + (1 : Int)).toNat = i + 1 := by omega
 have hb3 : (i : Int) ≤ (n : Int) := by omega
 clear hkk hik hold hROW hG hblk hh1 hs1
 go_enter Tryz.func81, Tryz.ntmps81
 go_wp2_with (first
  | (at_builtin; refine Lib.wpList_append_run _ rfl _ _ _ _ rfl _ _ rfl rfl _ _ (hrz _) ?_)
  | (refine wpList_copyZEnt _ rfl _ _ 48 48 rfl _ _ rfl rfl (hcpA _ rfl _ _) ?_))
 go_region_law_o (refine step_copyZEnt rfl _ _ 48 48 rfl (.slice (some ⟨w.heap.size, (i + 1) * 2, none⟩) (n + 1 - (i + 1)) (G - (i + 1))) (.slice (some ⟨g, i * 2, none⟩) (n - i) (c - i)) (by simp [Act.eval, Act.put]) (by simp [Act.eval, Act.put]) (hcpB ((((w.alloc (.cells ROW 65)).drew).setCells w.heap.size (i * 2) vs).drew) (by rfl) _ _ _ _ _ (by omega) (by omega)) ?_)
 go_wp2
 go_ret
 exact ⟨G, ROW, hGn, hG63, hRl, hRt, rfl, rfl⟩
/-- slices.Insert of one element: the row with it. -/
theorem insEnt.calls (A : Option Addr) (n c i vb base : Nat) (ok : Nat → Prop) (rows : List (List Value)) (vs : List Value) (w0 w : World) (hi : i ≤ n) (hn : rows.length = n) (hr : (Kd.raw 2).R 65 w base ok (.slice A n c) rows)
  (hv : w.heap[vb]? = some (.cells vs.toArray 65 (0, 0))) (hvb : some vb ≠ (Value.slice A n c).ownBlock) (hvl : vs.length = 2) (h1v : ∀ u ∈ vs, u.oneCell' = true) (hB : Below base w0 w) (hbase : base ≤ w.heap.size) (hbig : (n + 1) * 24 ≤ 140737488355328) :
  Calls Tryz.prog 81 #[.slice A n c, .int .i64 i, .slice (some ⟨vb, 0, none⟩) 1 1] w fun e w' => ∃ v', e = .returned v' ∧ (Kd.raw 2).R 65 w' base (fun k => some k = (Value.slice A n c).ownBlock ∨ w.heap.size ≤ k) v' (rows.take i ++ [vs] ++ rows.drop i) ∧
   Below base w0 w' ∧ w.grownBy w' (Value.slice A n c).ownBlock ∧ (v'.ownBlock = (Value.slice A n c).ownBlock ∨ ∃ b, v'.ownBlock = some b ∧ w.heap.size ≤ b) := by
 have hr' : (Kd.raw 2).R 65 w base (fun k => some k = (Value.slice A n c).ownBlock ∨ w.heap.size ≤ k) (.slice A n c) rows := ⟨fun k hk => .inl hk.symm, hr.2⟩
 rcases Nat.lt_or_ge i n with hlt | hge
 case inr =>
  obtain rfl : i = n := by omega
  rw [List.take_of_length_le (by omega), List.drop_of_length_le (by omega), List.append_nil]
  exact insEnt_end.calls A i c vb base rows vs w0 w hn hr' hv hvl h1v hB hbase hbig
 case inl =>
 obtain ⟨hok, inner, ⟨hil, hown⟩, hrep⟩ := hr'
 rcases hown with ⟨he, h0⟩ | ⟨g, cap, cur, he, hbg, hh, hnc, hcm, hcs, hin⟩
 ·omega
 injection he with ha hnn hcc
 subst ha; subst hcc; subst hnn
 rw [show (Kd.raw 2).sz = 2 from rfl] at hil hcs hin hrep
 have h1c : ∀ u ∈ inner, u.oneCell' = true := Kd.reps_one hrep (by decide) (fun p c h => h.2.2)
 have hrI := reps_ins (i := i) hrep (by omega) hvl h1v
 have hgv : vb ≠ g := fun he => hvb (by rw [he]; rfl)
 have hpl : i * 2 ≤ inner.length := by rw [hil]; omega
 have hlen3 : (rows.take i ++ [vs] ++ rows.drop i).length = rows.length + 1 := by simp only [List.length_append, List.length_take, List.length_drop, List.length_singleton]; omega
 rcases Nat.lt_or_ge c (rows.length + 1) with hg | hroom
 ·refine (insEnt_grow.calls g rows.length c i vb cur inner vs w hlt hnc hg hbig hh hcs hin hv hvl h1c h1v).mono ?_
  rintro e w' ⟨G, ROW, hGn, hG63, hRl, hRt, rfl, rfl⟩
  refine ⟨_, rfl, ?_, ?_, grown_alloc_two w _ _ _ _ _ _, .inr ⟨_, rfl, Nat.le_refl _⟩⟩
  ·obtain ⟨c1, k1, k2, k3⟩ := setCells_row (e := 65) vs (i * 2) (w.alloc (.cells ROW 65)).drew ROW (blk_drew (blk_new w _)) (by omega)
   obtain ⟨c2, l1, l2, l3⟩ := setCells_row (inner.drop (i * 2)) ((i + 1) * 2) _ c1 (blk_drew k1) (by rw [List.length_drop, k2, hil, hRl]; omega)
   have hm : G ≤ maxLen := hG63
   rw [hlen3.symm]
   refine rawR_of l1 (by rw [l2, k2, hRl]) (by omega) hm (by omega) (.inr (Nat.le_refl _)) rfl ?_
   rw [l3]
   have := ins_list2 ROW.toList inner vs (i * 2) 2 hvl hpl hRt c1.toList (by rw [Array.length_toList]; omega) k3
   rw [show (i + 1) * 2 = i * 2 + 2 by omega, show (rows.take i ++ [vs] ++ rows.drop i).length * 2 = inner.length + 2 by rw [hlen3, hil]; omega, this]
   exact hrI
  ·exact hB.grown (grown_alloc_two w _ _ _ _ _ none) hbase (fun k e => by cases e)
 ·refine (insEnt_shift.calls g rows.length c i vb cur inner vs w hlt hroom (by unfold maxLen at hcm; omega) hgv hh hcs hin hv hvl h1c h1v).mono ?_
  rintro e w' ⟨rfl, rfl⟩
  refine ⟨_, rfl, ?_, ?_, grown_two w g _ _ _ _, .inl rfl⟩
  ·obtain ⟨c1, k1, k2, k3⟩ := setCells_row (inner.drop (i * 2)) ((i + 1) * 2) w.drew cur (blk_drew hh) (by rw [List.length_drop, hil, hcs]; omega)
   obtain ⟨c2, l1, l2, l3⟩ := setCells_row vs (i * 2) _ c1 k1 (by rw [k2, hcs]; omega)
   rw [hlen3.symm]
   refine rawR_of l1 (by rw [l2, k2, hcs]) (by omega) hcm hbg (.inl rfl) rfl ?_
   rw [l3]
   have := ins_list cur.toList inner vs (i * 2) 2 hvl hpl (by rw [← hin, List.take_take, Nat.min_eq_left (by omega)]) (by rw [Array.length_toList, hcs]; omega) c1.toList (by rw [k3, show (i + 1) * 2 = i * 2 + 2 by omega])
   rw [show (rows.take i ++ [vs] ++ rows.drop i).length * 2 = inner.length + 2 by rw [hlen3, hil]; omega, this]
   exact hrI
  ·exact hB.grown (grown_two w g _ _ _ _) hbase (fun k e => by injection e with e; omega)
/-! ### impl_spot_enter: function 59 -/
def gtS (a b : ByteArray) : Bool := !(Op.bytesLess a.toList b.toList || a.toList == b.toList)
def gtN (s : ByteArray) : List S65 → Nat → Int
 | [], _ => -1
 | x :: l, i => if gtS x.f0 s = true then (i : Int) else gtN s l (i + 1)
theorem entGt1.calls (s a : ByteArray) (b : Int) (B : Nat) (W : World) (hB : B < W.heap.size) (hc : W.cell? ⟨B, 6, none⟩ = some (.string s)) :
  Calls Tryz.prog 80 #[.agg #[.string a, .int .i64 b], .pointer (some ⟨B, 0, none⟩)] W fun e w' => e = .returned (.bool (gtS a s)) ∧ Below W.heap.size W w' := by
 have hne : B ≠ W.heap.size := by omega
 go_enter Tryz.func80, Tryz.ntmps80
 go_wp2
 all_goals (go_ret; exact ⟨by simp_all [gtS], (Below.refl _ W).alloc (Nat.le_refl _) _⟩)
theorem erd_at (l : List S65) (k : Nat) (h : k < l.length) : rd_T65 l (k : Int) = l[k] := by
 simp [rd_T65, List.getD_eq_getElem?_getD, List.getElem?_eq_getElem h]
theorem gtN_hit (s : ByteArray) (l : List S65) (k j : Nat) (h : k < l.length) (hit : gtS (rd_T65 l (k : Int)).f0 s = true) : gtN s (l.drop k) j = (j : Int) := by
 rw [List.drop_eq_getElem_cons h, gtN, if_pos (by rw [← erd_at l k h]; exact hit)]
theorem gtN_miss (s : ByteArray) (l : List S65) (k j : Nat) (h : k < l.length) (hit : gtS (rd_T65 l (k : Int)).f0 s = false) : gtN s (l.drop k) j = gtN s (l.drop (k + 1)) (j + 1) := by
 rw [List.drop_eq_getElem_cons h, gtN, if_neg (by rw [← erd_at l k h, hit]; decide)]
set_option maxHeartbeats 400000 in
set_option maxRecDepth 100000 in
theorem entGt2.calls (s : ByteArray) (A0 : Option Addr) (c0 : Nat) (l : List S65) (B : Nat) (w : World) (hr : k65.C w A0 l.length l) (hB : B < w.heap.size) (hc : w.cell? ⟨B, 6, none⟩ = some (.string s)) (hl : l.length ≤ 9223372036854775807) :
  Calls Tryz.prog 79 #[.slice A0 l.length c0, .func (.func 80) #[] #[.pointer (some ⟨B, 0, none⟩)]] w fun e w' => e = .returned (.int .i64 (gtN s l 0)) ∧ Below w.heap.size w w' := by
 go_enter Tryz.func79, Tryz.ntmps79
 go_wp2
 go_loopg [5, 8] l.length (fun gg _ s8 wr => ∃ kk : Nat, kk ≤ l.length ∧ l.length - kk ≤ gg ∧ s8 = .int .i64 kk ∧ Aside0 (Below w.heap.size w wr) ∧ Aside0 (gtN s l 0 = gtN s (l.drop kk) kk))
 case atStart => exact ⟨0, Nat.zero_le _, by omega, rfl, ⟨Below.refl _ w⟩, ⟨rfl⟩⟩
 case round =>
  obtain ⟨kk, hkk, hg, rfl, BW, A⟩ := hrel
  by_cases hlt : kk < l.length
  ·have hltz : (kk : Int) < (l.length : Int) := by omega
   obtain ⟨ad, e0, h0, h1⟩ := at_T65 (Kd.C_below hr BW.out) (kk : Int) (by omega) hltz
   cases e0
   rw [Int.toNat_natCast] at h0 h1
   have hBw : B < wr.heap.size := Nat.lt_of_lt_of_le hB BW.out.size
   have hcw : wr.cell? ⟨B, 6, none⟩ = some (.string s) := (BW.out.cell (p := ⟨B, 6, none⟩) hB).trans hc
   cases hq : gtS (rd_T65 l (kk : Int)).f0 s with
   | true =>
    go_wp2_with (go_at_call 80; refine (entGt1.calls s _ _ B wr hBw hcw).mono ?_; rintro e w' ⟨rfl, hb'⟩; rw [hq])
    go_ret
    exact ⟨by rw [A.out, gtN_hit s l kk kk hlt hq]; rfl, below_then BW.out BW.out.size hb'⟩
   | false =>
    go_wp2_with (go_at_call 80; refine (entGt1.calls s _ _ B wr hBw hcw).mono ?_; rintro e w' ⟨rfl, hb'⟩; rw [hq])
    go_roundg (l.length - (kk + 1))
    case measure => omega
    case rel => exact ⟨kk + 1, by omega, by omega, by go_num, ⟨below_then BW.out BW.out.size hb'⟩, ⟨by rw [A.out, gtN_miss s l kk kk hlt hq]⟩⟩
  ·have hltz : ¬ (kk : Int) < (l.length : Int) := by omega
   obtain rfl : kk = l.length := by omega
   go_wp2
   go_ret
   exact ⟨by rw [A.out, List.drop_length]; rfl, BW.out⟩
theorem gtN_spec (s : ByteArray) (l : List S65) : ∀ j : Nat, gtN s l j = -1 ∨ ∃ i : Nat, gtN s l j = ((j + i : Nat) : Int) ∧ i < l.length := by
 induction l with
 | nil => intro j; exact .inl rfl
 | cons x l ih =>
  intro j
  rw [gtN]
  split
  ·exact .inr ⟨0, by simp, by simp⟩
  ·rcases ih (j + 1) with h | ⟨i, h, hi⟩
   ·exact .inl h
   ·exact .inr ⟨i + 1, by rw [h]; omega, by simp only [List.length_cons]; omega⟩
def posN (s : ByteArray) (l : List S65) : Nat := if gtN s l 0 < 0 then l.length else (gtN s l 0).toNat
def encE (x : S65) : List Value := [.string x.f0, .int .i64 x.f1]
def impl_spot_enter.f (k : Nat) (a0_0 a0_1 a0_2 : Int) (l0_3 : List Int) (l0_4 : List S65) (l0_5 : List S71) (a0_6 : ByteArray) (l1_0 : List S51) (a1_1 a2 : Int) : Option (List S51 × Int) :=
 (slices_Clone_Ent.f l0_4).bind fun y => if posN a0_6 l0_4 ≤ y.length ∧ (y.length + 1) * 24 ≤ 140737488355328 ∧ l0_4.length ≤ 9223372036854775807 then impl_SetInode.f k l1_0 a1_1 a0_0 a0_1 a0_2 l0_3 (y.take (posN a0_6 l0_4) ++ [⟨a0_6, a2⟩] ++ y.drop (posN a0_6 l0_4)) l0_5 else none
set_option maxHeartbeats 4000000 in
set_option maxRecDepth 100000 in
theorem impl_spot_enter.calls (k : Nat) (a0_0 a0_1 a0_2 : Int) (A0_3 : Option Addr) (c0_3 : Nat) (l0_3 : List Int) (A0_4 : Option Addr) (c0_4 : Nat) (l0_4 : List S65) (A0_5 : Option Addr) (c0_5 : Nat) (l0_5 : List S71) (a0_6 : ByteArray) (A1_0 : Option Addr) (c1_0 : Nat) (l1_0 : List S51) (a1_1 a2 : Int) (r1 : List S51) (r2 : Int) (w : World)
  (hr0_3 : Kd.C (Kd.int .u8) w A0_3 l0_3.length l0_3) (hc0_3 : l0_3.length ≤ c0_3) (hr0_4 : Kd.C k65 w A0_4 l0_4.length l0_4) (hc0_4 : l0_4.length ≤ c0_4) (hr0_5 : Kd.C k71 w A0_5 l0_5.length l0_5) (hc0_5 : l0_5.length ≤ c0_5) (hr1_0 : Kd.C k51 w A1_0 l1_0.length l1_0) (hc1_0 : l1_0.length ≤ c1_0) (h : impl_spot_enter.f k a0_0 a0_1 a0_2 l0_3 l0_4 l0_5 a0_6 l1_0 a1_1 a2 = some (r1, r2)) :
  Calls Tryz.prog 59 #[.agg #[.int .i64 a0_0, .int .i64 a0_1, .int .i64 a0_2, .slice A0_3 l0_3.length c0_3, .slice A0_4 l0_4.length c0_4, .slice A0_5 l0_5.length c0_5, .string a0_6], .agg #[.slice A1_0 l1_0.length c1_0, .int .i64 a1_1], .int .i64 a2] w fun e w' => ∃ v0_ : Value, e = .returned (.agg #[v0_, .int .i64 r2]) ∧ Kd.S k51 51 w' w.heap.size (fun _ => True) v0_ r1 ∧ Below w.heap.size w w' := by
 unfold impl_spot_enter.f at h
 replace h := bA h
 obtain ⟨y, H1, h⟩ := h
 split at h
 case isFalse => cases h
 case isTrue hl =>
 have HPY := Aside0.mk hl.1
 have H24 := Aside0.mk hl.2.1
 have HL4 := Aside0.mk hl.2.2
 obtain ⟨Y, hY⟩ : ∃ Y, Y = (y.take (posN a0_6 l0_4) ++ [(⟨a0_6, a2⟩ : S65)] ++ y.drop (posN a0_6 l0_4)) := ⟨_, rfl⟩
 rw [← hY] at h
 have HY := Aside0.mk hY
 have H2 := Aside0.mk h
 have HR3 := Aside0.mk hr0_3
 have HC3 := Aside0.mk hc0_3
 have HR4 := Aside0.mk hr0_4
 have HC4 := Aside0.mk hc0_4
 have HR5 := Aside0.mk hr0_5
 have HC5 := Aside0.mk hc0_5
 have HR0 := Aside0.mk hr1_0
 have HC0 := Aside0.mk hc1_0
 clear hl h hY hr0_3 hc0_3 hr0_4 hc0_4 hr0_5 hc0_5 hr1_0 hc1_0
 have HB := Aside0.mk (Below.refl w.heap.size w)
 go_enter Tryz.func59, Tryz.ntmps59
 go_upto_if 14 with (first | ((with_reducible refine gate_dst (N := 3) rfl ?_); refine bx_ 3 #[.int .i64 a0_0, .int .i64 a0_1, .int .i64 a0_2, .slice A0_3 l0_3.length c0_3, .slice A0_4 l0_4.length c0_4, .slice A0_5 l0_5.length c0_5, .string a0_6] 84 ?_; intro gb3 hg w1 hbox hb; have BK3 := Aside0.mk hbox; have GW3 := gs_ hg; replace HB := Aside0.mk (below_step oB hb); clear hb hbox hg) | ((with_reducible refine gate_dst (N := 4) rfl ?_); refine bx_ 4 #[.slice A1_0 l1_0.length c1_0, .int .i64 a1_1] 26 ?_; intro gb4 hg w2 hbox hb; have BK4 := Aside0.mk hbox; have GW4 := gs_ hg; have NB34 := nl_ hg BK3; have NB43 := nr_ hg BK3; replace BK3 := kb_ BK3 hb; replace HB := Aside0.mk (below_step oB hb); clear hb hbox hg) | ((with_reducible refine gate_dst (N := 6) rfl ?_); refine bx_ 6 #[.slice none 0 0, .int .i64 0] 26 ?_; intro gb6 hg w3 hbox hb; have BK6 := Aside0.mk hbox; have GW6 := gs_ hg; have NB36 := nl_ hg BK3; have NB63 := nr_ hg BK3; have NB46 := nl_ hg BK4; have NB64 := nr_ hg BK4; replace BK3 := kb_ BK3 hb; replace BK4 := kb_ BK4 hb; replace HB := Aside0.mk (below_step oB hb); clear hb hbox hg; obtain ⟨⟨_, _, _, _, _, _, _⟩, _, _, _, _, _, _, _⟩ := z7 BK3) | (go_at_call 79; refine (entGt2.calls a0_6 A0_4 c0_4 l0_4 gb3 _ (kC HR4) (blk_lt (oF BK3)) ((blk_cell (oF BK3) 6).trans rfl) HL4.out).mono ?_; rintro e w4 ⟨rfl, hb⟩; replace BK3 := kb_ BK3 hb; replace BK4 := kb_ BK4 hb; replace BK6 := kb_ BK6 hb; replace HB := Aside0.mk (below_step oB hb); clear hb))
 (try simp only [Act.put, List.setIfInBounds_toArray, List.set_cons_zero, List.set_cons_succ])
 go_cut [7] (fun v7 wc => v7 = .int .i64 ((posN a0_6 l0_4 : Nat) : Int) ∧ Aside0 (wc.heap[gb3]? = some (.cells #[.int .i64 a0_0, .int .i64 a0_1, .int .i64 a0_2, .slice A0_3 l0_3.length c0_3, .slice A0_4 l0_4.length c0_4, .slice A0_5 l0_5.length c0_5, .string a0_6] 84 (0, 0))) ∧ Aside0 (wc.heap[gb4]? = some (.cells #[.slice A1_0 l1_0.length c1_0, .int .i64 a1_1] 26 (0, 0))) ∧ Aside0 (wc.heap[gb6]? = some (.cells #[.slice none 0 0, .int .i64 0] 26 (0, 0))) ∧ Aside0 (Below w.heap.size w wc))
 case first =>
  obtain ⟨⟨_, _, _, _, _, _, _⟩, _, _, _, _, _, _, _⟩ := z7 BK3
  rcases gtN_spec a0_6 l0_4 0 with hgt | ⟨j, hgt, hj⟩
  ·have hpo : posN a0_6 l0_4 = l0_4.length := by unfold posN; rw [hgt]; rfl
   have hj0 : decide ((-1 : Int) < 0) = true := rfl
   rw [hgt]
   go_wp2
   go_meet
   case rel => exact ⟨by rw [hpo], ⟨oF BK3⟩, ⟨oF BK4⟩, ⟨oF BK6⟩, ⟨oB⟩⟩
  ·have hpo : posN a0_6 l0_4 = j := by unfold posN; rw [hgt, if_neg (by omega)]; omega
   have hj0 : decide (((0 + j : Nat) : Int) < 0) = false := decide_eq_false (by omega)
   rw [hgt]
   go_wp2
   go_meet
   case rel => exact ⟨by rw [hpo, Nat.zero_add], ⟨oF BK3⟩, ⟨oF BK4⟩, ⟨oF BK6⟩, ⟨oB⟩⟩
 case rest =>
  obtain ⟨rfl, BK3, BK4, BK6, HB⟩ := hcut
  try go_wp2
  replace BK3 := Aside0.mk (blk_drew BK3.out)
  replace BK4 := Aside0.mk (blk_drew BK4.out)
  replace BK6 := Aside0.mk (blk_drew BK6.out)
  replace HB := Aside0.mk (below_drew1 HB.out)
  refine start_ (n := 14) (S := fun w' => w'.cell? ⟨gb3, 4, none⟩ = some (.slice A0_4 l0_4.length c0_4) ∧ w'.cell? ⟨gb3, 6, none⟩ = some (.string a0_6)) (ds := [13]) (lb 14 0) (by kernel_rfl) rfl rfl oH (fun hHeld => ?_)
  generalize wc.drew = w5 at BK3 BK4 BK6 HB hHeld ⊢
  refine p0_ 0 19 ?_
  refine p0_ 1 20 ?_
  refine t0_ 2 21 hHeld ?_
  refine p0_ 4 23 ?_
  refine p0_ 5 24 ?_
  refine t0_ 6 25 hHeld ?_
  refine p0_ 7 26 ?_
  refine p0_ 8 27 ?_
  refine join_ (σ := Value × Nat) 4 (lb 14 1023) (fun s_ => [(22, s_.1), (28, .slice (some ⟨s_.2, 0, none⟩) 1 1)]) (fun s_ w' => (w'.cell? ⟨gb3, 4, none⟩ = some (.slice A0_4 l0_4.length c0_4) ∧ w'.cell? ⟨gb3, 6, none⟩ = some (.string a0_6)) ∧ Kd.R k65 65 w' w.heap.size (fun k_ => k_ ≠ gb3 ∧ k_ ≠ gb4 ∧ k_ ≠ gb6 ∧ k_ ≠ s_.2) s_.1 y ∧ w'.heap[s_.2]? = some (.cells #[.string a0_6, .int .i64 a2] 65 (0, 0)) ∧ w'.heap[gb3]? = some (.cells #[.int .i64 a0_0, .int .i64 a0_1, .int .i64 a0_2, .slice A0_3 l0_3.length c0_3, .slice A0_4 l0_4.length c0_4, .slice A0_5 l0_5.length c0_5, .string a0_6] 84 (0, 0)) ∧ w'.heap[gb4]? = some (.cells #[.slice A1_0 l1_0.length c1_0, .int .i64 a1_1] 26 (0, 0)) ∧ w'.heap[gb6]? = some (.cells #[.slice none 0 0, .int .i64 0] 26 (0, 0)) ∧ Below w.heap.size w w') ?_ ?_
  rotate_left
  ·intro hCont
   refine two_ (i := 3) (j := 9) (Ni := some 22) (Nj := some 28) (lb 14 511) (lb 14 1015) rfl rfl rfl rfl (by kernel_rfl) (by decide) (by decide) (fun K hK => ?_) (fun K hK => ?_)
   ·refine gr_ 22 Tryz.func82 (slices_Clone_Ent.calls _ _ l0_4 y _ (kC HR4) HC4.out H1.out) ?_
    rintro e w6 ⟨v22, rfl, ho, hb⟩
    refine ⟨_, rfl, ?_⟩
    have HO := Aside0.mk (Kd.R_lower (Kd.R_newB (Kd.R_newB (Kd.R_newB ho (oF BK3)) (oF BK4)) (oF BK6)) (below_size oB))
    replace BK3 := kb_ BK3 hb
    replace BK4 := kb_ BK4 hb
    replace BK6 := kb_ BK6 hb
    replace HB := Aside0.mk (below_step oB hb)
    clear hb ho
    refine hk_ hK 22 oH (fun hHeld => ?_)
    clear hK K
    refine o0_ 9 28 (fun K hK => ?_)
    refine event_step (v := .slice (some ⟨w6.heap.size, 0, none⟩) 1 1) (w1 := w6.alloc (.cells #[.string a0_6, .int .i64 a2] 65)) (by rfl) (by first | (go_simp; done) | (go_simp; rfl)) ?_
    refine hk_ hK 28 ⟨(World.cell?_alloc_lt _ _ _ (blk_lt BK3.out)).trans hHeld.1, (World.cell?_alloc_lt _ _ _ (blk_lt BK3.out)).trans hHeld.2⟩ (fun hHeld => ?_)
    clear hK K
    exact norm_ (by simp only [putAll, Act.put, List.setIfInBounds_toArray, List.set_cons_zero, List.set_cons_succ]) (hCont (v22, w6.heap.size) _ ⟨hHeld, Kd.R_alloc (Kd.R_mono (Kd.R_bound HO.out) (fun _ hk => ⟨hk.1.1.1.2, hk.1.1.2, hk.1.2, Nat.ne_of_lt hk.2.2.1⟩)) _, blk_new _ _, blk_alloc BK3.out _, blk_alloc BK4.out _, blk_alloc BK6.out _, below_alloc HB.out _⟩)
   ·refine event_step (v := .slice (some ⟨w5.heap.size, 0, none⟩) 1 1) (w1 := w5.alloc (.cells #[.string a0_6, .int .i64 a2] 65)) (by rfl) (by first | (go_simp; done) | (go_simp; rfl)) ?_
    refine hk_ hK 28 ⟨(World.cell?_alloc_lt _ _ _ (blk_lt BK3.out)).trans hHeld.1, (World.cell?_alloc_lt _ _ _ (blk_lt BK3.out)).trans hHeld.2⟩ (fun hHeld => ?_)
    clear hK K
    have BK9 := Aside0.mk (blk_new w5 (.cells #[.string a0_6, .int .i64 a2] 65))
    replace BK3 := Aside0.mk (blk_alloc BK3.out (.cells #[.string a0_6, .int .i64 a2] 65))
    replace BK4 := Aside0.mk (blk_alloc BK4.out (.cells #[.string a0_6, .int .i64 a2] 65))
    replace BK6 := Aside0.mk (blk_alloc BK6.out (.cells #[.string a0_6, .int .i64 a2] 65))
    replace HB := Aside0.mk (below_alloc HB.out (.cells #[.string a0_6, .int .i64 a2] 65))
    generalize w5.alloc (.cells #[.string a0_6, .int .i64 a2] 65) = w6 at BK3 BK4 BK6 BK9 HB hHeld ⊢
    refine o0_ 3 22 (fun K hK => ?_)
    refine gr_ 22 Tryz.func82 (slices_Clone_Ent.calls _ _ l0_4 y _ (kC HR4) HC4.out H1.out) ?_
    rintro e w7 ⟨v22, rfl, ho, hb⟩
    refine ⟨_, rfl, ?_⟩
    have HO := Aside0.mk (Kd.R_lower (Kd.R_newB (Kd.R_newB (Kd.R_newB (Kd.R_newB ho (oF BK3)) (oF BK4)) (oF BK6)) (oF BK9)) (below_size oB))
    replace BK3 := kb_ BK3 hb
    replace BK4 := kb_ BK4 hb
    replace BK6 := kb_ BK6 hb
    replace BK9 := kb_ BK9 hb
    replace HB := Aside0.mk (below_step oB hb)
    clear hb ho
    refine hk_ hK 22 oH (fun hHeld => ?_)
    clear hK K
    exact norm_ (by simp only [putAll, Act.put, List.setIfInBounds_toArray, List.set_cons_zero, List.set_cons_succ]) (hCont (v22, w5.heap.size) _ ⟨hHeld, Kd.R_mono HO.out (fun _ hk => ⟨hk.1.1.1.2, hk.1.1.2, hk.1.2, hk.2⟩), BK9.out, BK3.out, BK4.out, BK6.out, HB.out⟩)
  clear BK3 BK4 BK6 HB hHeld
  rintro ⟨v22, g9⟩ w7 ⟨hHeld, hR, hG, b3, b4, b6, hB⟩
  dsimp only at hR hG
  have BK3 := Aside0.mk b3
  have BK4 := Aside0.mk b4
  have BK6 := Aside0.mk b6
  have HB := Aside0.mk hB
  clear b3 b4 b6 hB
  obtain ⟨A9, c9, rfl⟩ := Kd.R_slice hR
  refine norm_ (a' := ?_) ?_ ?_
  rotate_left
  ·simp only [putAll, Act.put, List.setIfInBounds_toArray, List.set_cons_zero, List.set_cons_succ]
   rfl
  refine o0_ 10 29 (fun K hK => ?_)
  refine gr_ 29 Tryz.func81 (insEnt.calls A9 y.length c9 (posN a0_6 l0_4) g9 w.heap.size _ (y.map encE) [.string a0_6, .int .i64 a2] w _ HPY.out (List.length_map ..) (rawR (d := k65) encE (fun _ _ _ _ _ h => k65_openM h) hR) hG (Kd.R_away hR (fun _ hk => hk.2.2.2)) rfl (by simp; exact ⟨rfl, rfl⟩) HB.out (below_size HB.out) H24.out) ?_
  rintro e w8 ⟨v', rfl, hr8, hb8, hg8, hat8⟩
  refine ⟨_, rfl, ?_⟩
  rw [show (y.map encE).take (posN a0_6 l0_4) ++ [[.string a0_6, .int .i64 a2]] ++ (y.map encE).drop (posN a0_6 l0_4) = Y.map encE from by rw [HY.out]; simp [List.map_take, List.map_drop, encE]] at hr8
  have HR8 := Aside0.mk (Kd.R_mono (ok' := fun k_ => k_ ≠ gb3 ∧ k_ ≠ gb4 ∧ k_ ≠ gb6) (unrawR (d := k65) encE (fun _ _ _ x => k65_mkM _ _ _ x) hr8) (fun k_ hk => by
   have l3 := blk_lt BK3.out
   have l4 := blk_lt BK4.out
   have l6 := blk_lt BK6.out
   rcases hk with h | h
   ·have := hR.1 k_ h.symm
    exact ⟨this.1, this.2.1, this.2.2.1⟩
   ·exact ⟨by omega, by omega, by omega⟩))
  replace BK3 := Aside0.mk (blk_grown BK3.out hg8 (Kd.R_away hR (fun _ hk => hk.1)))
  replace BK4 := Aside0.mk (blk_grown BK4.out hg8 (Kd.R_away hR (fun _ hk => hk.2.1)))
  replace BK6 := Aside0.mk (blk_grown BK6.out hg8 (Kd.R_away hR (fun _ hk => hk.2.2.1)))
  replace HB := Aside0.mk hb8
  obtain ⟨A8, c8, rfl⟩ := Kd.R_slice HR8.out
  clear hr8 hb8 hg8 hat8 hR hG hHeld
  refine hk_ hK 29 oH (fun hHeld => ?_)
  clear hK K
  refine p0_ 11 30 ?_
  refine p0_ 12 31 ?_
  refine last_ (i := 13) (N := none) (lb 14 16383) rfl rfl (by kernel_rfl) (by decide) (fun K hK => ?_)
  obtain ⟨⟨_, _, _, _, _, _, _⟩, _, _, _, _, _, _, _⟩ := z7 BK3
  refine skip_ (w1 := ?_) (by rfl) rfl ?_ ?_
  rotate_left
  ·go_simp
   rfl
  refine hK.out _ _ ?_
  clear hK K
  refine done_ (by kernel_rfl) ?_
  have n3_ : Aside0 ((w8.setCell ⟨gb3, 4, none⟩ (.slice A8 Y.length c8)).heap[gb3]? = some (.cells #[.int .i64 a0_0, .int .i64 a0_1, .int .i64 a0_2, .slice A0_3 l0_3.length c0_3, .slice A8 Y.length c8, .slice A0_5 l0_5.length c0_5, .string a0_6] 84 (0, 0))) := ⟨oP BK3⟩
  have n4_ := Aside0.mk (Kd.R_far (p := ⟨gb3, 4, none⟩) HR8.out (fun _ hk => hk.1) (.slice A8 Y.length c8))
  generalize hW_ : w8.setCell ⟨gb3, 4, none⟩ (.slice A8 Y.length c8) = w9 at n3_ n4_ ⊢
  replace BK4 := kw_ hW_ BK4
  replace BK6 := kw_ hW_ BK6
  replace HB := hw_ hW_ HB
  clear BK3 HR8 hW_
  obtain ⟨⟨_, _, _, _, _, _, _⟩, _, _, _, _, _, _, _⟩ := z7 n3_
  obtain ⟨⟨_, _⟩, _, _⟩ := z2 BK4
  go_wp2_with ((with_reducible refine gate_callee (f := 50) rfl ?_); refine gl_ 35 Tryz.func50 (impl_SetInode.calls k _ _ l1_0 a1_1 a0_0 a0_1 a0_2 _ _ l0_3 _ _ Y _ _ l0_5 r1 r2 _ (kC HR0) HC0.out (kC HR3) HC3.out (kO n4_) (ko n4_) (kC HR5) HC5.out H2.out) ?_; rintro e w10 ⟨v0, rfl, hs, hb⟩; refine ⟨_, rfl, ?_⟩; obtain ⟨A0, c0, rfl⟩ := Kd.S_slice hs; have HS := siv' hs w9.heap.size w.heap.size (Nat.le_refl _) (below_size HB.out); have hl6 := Aside0.mk (blk_lt BK6.out); replace BK6 := kb_ BK6 hb; replace HB := Aside0.mk (below_step oB hb); clear hs hb; obtain ⟨⟨_, _⟩, _, _⟩ := z2 BK6)
  refine bodyPost_ret (results_cell_row rfl _ _ gb6 26 #[.slice A0 r1.length c0, .int .i64 r2] (0, 0) _ rfl (oP BK6) Tryz.underlying26 rfl (by kernel_rfl)) rfl ?_
  exact ⟨_, rfl, Kd.S_mono (Kd.S_far (Kd.S_far HS.out (fun k_ hk => by have := hk.1; have := hl6.out; dsimp only; omega) _) (fun k_ hk => by have := hk.1; have := hl6.out; dsimp only; omega) _) (fun _ _ => trivial), oB⟩
/-! ### impl_makeAt: function 35 -/
mutual
def impl_makeAt.j0 : Nat → ByteArray → Int → Bool → List (S51) → Int → Option ((List (S51)) × Int × Int)
 | 0, _, _, _, _, _ => none
 | k + 1, x1, x2, x21, x355000, x355001 => if x21 = true then (some (x355000, x355001, 1)) else ((impl_spotOf.f k x355000 x355001 x1).bind fun bt364 => (if bt364.2.2.2.2.2.2.2 = 0 then ((impl_EntOf.f k bt364.1 bt364.2.1 bt364.2.2.1 bt364.2.2.2.1 bt364.2.2.2.2.1 bt364.2.2.2.2.2.1 bt364.2.2.2.2.2.2.1).bind fun t379 => (if t379 = 0 then (if (bt364.2.2.2.2.1.length : Int) = 10 then (impl_makeAt.j1 k x2 true x355000 x355001 bt364.1 bt364.2.1 bt364.2.2.1 bt364.2.2.2.1 bt364.2.2.2.2.1 bt364.2.2.2.2.2.1 bt364.2.2.2.2.2.2.1) else (if (x355000.length : Int) = 30 then (impl_makeAt.j1 k x2 true x355000 x355001 bt364.1 bt364.2.1 bt364.2.2.1 bt364.2.2.2.1 bt364.2.2.2.2.1 bt364.2.2.2.2.2.1 bt364.2.2.2.2.2.2.1) else (impl_makeAt.j1 k x2 (x355001 == 1000) x355000 x355001 bt364.1 bt364.2.1 bt364.2.2.1 bt364.2.2.2.1 bt364.2.2.2.2.1 bt364.2.2.2.2.2.1 bt364.2.2.2.2.2.2.1))) else (some (x355000, x355001, 4)))) else (some (x355000, x355001, bt364.2.2.2.2.2.2.2))))
def impl_makeAt.j1 : Nat → Int → Bool → List (S51) → Int → Int → Int → Int → List Int → List (S65) → List (S71) → ByteArray → Option ((List (S51)) × Int × Int)
 | 0, _, _, _, _, _, _, _, _, _, _, _ => none
 | k + 1, x2, x42, x355000, x355001, x379000, x379001, x379002, x379003, x379004, x379005, x379006 => if x42 = true then (some (x355000, x355001, 5)) else ((impl_spot_enter.f k x379000 x379001 x379002 x379003 x379004 x379005 x379006 x355000 (wrap64 (x355001 + 1)) x355001).bind fun bt381 => ((impl_SetInode.f k bt381.1 bt381.2 x355001 x2 1 ([] : List Int) ([] : List (S65)) ([] : List (S71))).bind fun bt385 => (some (bt385.1, bt385.2, 0))))
end
def impl_makeAt.f (k : Nat) (l0_0 : List (S51)) (a0_1 : Int) (a1 : ByteArray) (a2 : Int) : Option ((List (S51)) × Int × Int) := (impl_copyTab.f k l0_0 a0_1).bind fun bt356 => ((impl_ready.f k bt356.1 bt356.2 (([a1] : List ByteArray))).bind fun t363 => (if t363 = true then (impl_makeAt.j0 k a1 a2 (a1.toList == ([47] : List UInt8)) bt356.1 bt356.2) else (impl_makeAt.j0 k a1 a2 true bt356.1 bt356.2)))
def impl_makeAt.T13 : Bool × List (List Nat × List Nat) := (true, [([], []), ([], []), ([], []), ([2], [2]), ([0, 1, 3], [0, 1, 3]), ([], []), ([4, 5, 4], [4, 5]), ([6, 6, 0, 1, 2, 3, 4, 5, 6], [6]), ([7, 0, 1, 2, 3, 4, 5, 6, 7], [])])
def impl_makeAt.B13 : List Nat := [0, 0, 0, 4, 15, 0, 63, 127, 255]
theorem impl_makeAt.tab13 : rtab .any (opsOf Tryz.f35 13) = impl_makeAt.T13 := by kernel_rfl
theorem impl_makeAt.bits13 : waitsOk impl_makeAt.T13.2 impl_makeAt.B13 = true := by kernel_rfl
set_option maxHeartbeats 8000000 in
set_option maxRecDepth 100000 in
theorem impl_makeAt.calls (k : Nat) (A0_0 : Option Addr) (c0_0 : Nat) (l0_0 : List (S51)) (a0_1 : Int) (a1 : ByteArray) (a2 : Int) (r1 : List (S51)) (r2 : Int) (r3 : Int) (w : World) (hr0_0 : Kd.C k51 w A0_0 l0_0.length l0_0) (hc0_0 : l0_0.length ≤ c0_0) (h : impl_makeAt.f k l0_0 a0_1 a1 a2 = some (r1, r2, r3)) (hG : GOk w := by exact gk_ oB (by first | (with_reducible assumption) | assumption)) :
  Calls Tryz.prog 35 #[.agg #[.slice A0_0 l0_0.length c0_0, .int .i64 a0_1], .string a1, .int .i64 a2] w fun e w' => ∃ v0_ : Value, e = .returned (.tuple #[.agg #[v0_, .int .i64 r2], .int .i64 r3]) ∧ Kd.S k51 51 w' w.heap.size (fun _ => True) v0_ r1 ∧ Below w.heap.size w w' := by
 have HG := Aside0.mk hG
 clear hG
 have hu26 := Tryz.underlying26
 have hu84 := Tryz.underlying84
 have hu51 := Tryz.underlying51
 have HR0_0 := Aside0.mk hr0_0
 have HC0_0 := Aside0.mk hc0_0
 clear hr0_0 hc0_0
 have HB := Aside0.mk (Below.refl w.heap.size w)
 unfold impl_makeAt.f at h
 have H := h
 clear h
 replace H := bA H
 obtain ⟨⟨t356, t359⟩, A4, H⟩ := H
 try dsimp only at H
 have HC5 := Aside0.mk H
 clear H
 go_enter Tryz.func35, Tryz.ntmps35
 go_upto_region 2 with (first | ((with_reducible refine gate_dst (N := 3) rfl ?_); (try (refine gate_guard (by rfl) ?_; dsimp only)); refine bx_ 3 #[.slice A0_0 l0_0.length c0_0, .int .i64 a0_1] 26 ?_; intro gb354 hg w6 hbox hb; have BK354 := Aside0.mk (hbox); have GW354 := gs_ hg; replace HB := Aside0.mk (below_step oB hb); clear hb hbox hg) | ((with_reducible refine gate_dst (N := 6) rfl ?_); (try (refine gate_guard (by rfl) ?_; dsimp only)); refine bx_ 6 #[.slice none 0 0, .int .i64 0] 26 ?_; intro gb355 hg w7 hbox hb; have BK355 := Aside0.mk (hbox); have GW355 := gs_ hg; have NB354_355 := nl_ hg BK354; have NB355_354 := nr_ hg BK354; replace BK354 := kb_ BK354 hb; replace HB := Aside0.mk (below_step oB hb); clear hb hbox hg; have hnb8 := NB354_355.out; have hnc8 := NB355_354.out; obtain ⟨⟨_, _⟩, _, _⟩ := z2 BK354) | ((with_reducible refine gate_callee (f := 45) rfl ?_); refine gl_ 12 Tryz.func45 (impl_copyTab.calls k _ _ l0_0 a0_1 t356 t359 _ (kC HR0_0) HC0_0.out A4.out) ?_; rintro e w10 ⟨v357, rfl, ho0, hb⟩; refine ⟨_, rfl, ?_⟩; have HO358 := Aside0.mk (Kd.S_lower ho0 (below_size oB)); replace BK354 := kb_ BK354 hb; replace BK355 := kb_ BK355 hb; replace HB := Aside0.mk (below_step oB hb); obtain ⟨Ao11, co11, eo11⟩ := Kd.S_slice HO358.out; subst eo11; obtain ⟨⟨_, _⟩, _, _⟩ := z2 BK354))
 (try simp only [Act.put, List.setIfInBounds_toArray, List.set_cons_zero, List.set_cons_succ])
 go_cut [21] (fun v21 wc => ∃ (kq : Nat) (x21_4 : Bool), v21 = .bool x21_4 ∧ Aside0 (impl_makeAt.j0 kq a1 a2 x21_4 t356 t359 = some (r1, r2, r3)) ∧ Aside0 (kq ≤ k) ∧ Aside0 (Kd.S k51 51 wc w.heap.size (fun _ => True) (.slice Ao11 t356.length co11) t356) ∧ Aside0 (wc.heap[gb354]? = some (.cells #[(.slice Ao11 t356.length co11), .int .i64 t359] 26 (0, 0))) ∧ Aside0 (wc.heap[gb355]? = some (.cells #[(.slice none 0 0), .int .i64 0] 26 (0, 0))) ∧ Aside0 (Below w.heap.size w wc))
 case first =>
  have H := HC5.out
  clear HC5
  obtain ⟨y360, hy360⟩ : ∃ y_ : List ByteArray, y_ = (([a1] : List ByteArray)) := ⟨_, rfl⟩
  replace H : ((impl_ready.f k t356 t359 y360).bind fun t363 => (if t363 = true then (impl_makeAt.j0 k a1 a2 (a1.toList == ([47] : List UInt8)) t356 t359) else (impl_makeAt.j0 k a1 a2 true t356 t359))) = some (r1, r2, r3) := by first | (rw [hy360]; with_reducible exact H) | (have H2_ := (Option.bind_some _ _).symm.trans H; rw [hy360]; with_reducible exact H2_) | (have H2_ := (Option.bind_some _ _).symm.trans H; with_reducible exact H2_) | with_reducible exact H | (rw [hy360]; exact H) | exact H
  have Ny360 := Aside0.mk hy360
  clear hy360
  replace H := bA H
  obtain ⟨t363, A13, H⟩ := H
  try dsimp only at H
  replace H := itB H
  rcases H with ⟨rfl, H⟩ | ⟨rfl, H⟩
  ·have H' := Aside0.mk H
   clear H
   have hnb15 := NB354_355.out
   have hnc15 := NB355_354.out
   obtain ⟨⟨_, _⟩, _, _⟩ := z2 BK354
   go_wp2_with (first | ((with_reducible refine gate_dst (N := 15) rfl ?_); (try (refine gate_guard (by rfl) ?_; dsimp only)); refine Kd.R_lit Kd.string _ 9 ?hg (N := 15) ?hd (xs := ([a1] : List ByteArray)) (inner := [.string a1]) (ok := fun _ => True) (okp := fun _ => True) ?hr ?hp (fun _ hk => hk) trivial (Below.refl _ _) (Nat.le_refl _) (by simp) ?_; (case hd => rfl); (case hg => rfl); (case hr => first | (go_simp; done) | (go_simp; rfl)); (case hp => exact (Reps.one (show Kd.M Kd.string _ _ _ a1 [.string a1] from rfl) (Reps.none _ _))); intro v361 w17 ho18 hb hg_ hnew_; clear hg_ hnew_; (first | rw [← Ny360.out] at ho18 | (simp only [Int.reduceToNat] at ho18; rw [← Ny360.out] at ho18)); have HO362 := Aside0.mk (Kd.R_lower ho18 (below_size oB)); replace HO358 := beS1 HO358 BK354 hb; replace BK354 := kp_ #[.slice Ao11 t356.length co11, .int .i64 t359] BK354 hb; replace BK355 := kb_ BK355 hb; replace HB := Aside0.mk (below_step oB hb); clear hb ho18; obtain ⟨Ao19, co19, eo19⟩ := Kd.R_slice HO362.out; subst eo19) | ((with_reducible refine gate_callee (f := 46) rfl ?_); refine gl_ 16 Tryz.func46 (impl_ready.calls k _ _ t356 t359 _ _ y360 true _ (rcS0 HO358) (rnS HO358) (kO HO362) (ko HO362) A13.out) ?_; rintro e w20 ⟨rfl, hb⟩; refine ⟨_, rfl, ?_⟩; replace HO358 := beS0 HO358 hb; replace HO362 := kr_ HO362 hb; replace BK354 := kb_ BK354 hb; replace BK355 := kb_ BK355 hb; replace HB := Aside0.mk (below_step oB hb)))
   go_meet
   case rel => exact ⟨_, ((a1.toList == ([47] : List UInt8))), oS, H', ⟨by first | omega | exact Nat.le_refl _⟩, ⟨by (with_reducible repeat (first | apply Kd.S_alloc | apply Kd.S_drewN | apply Kd.S_drew)); exact HO358.out⟩, ⟨oF BK354⟩, ⟨oF BK355⟩, ⟨oB⟩⟩
  ·have H' := Aside0.mk H
   clear H
   have hnb21 := NB354_355.out
   have hnc21 := NB355_354.out
   obtain ⟨⟨_, _⟩, _, _⟩ := z2 BK354
   go_wp2_with (first | ((with_reducible refine gate_dst (N := 15) rfl ?_); (try (refine gate_guard (by rfl) ?_; dsimp only)); refine Kd.R_lit Kd.string _ 9 ?hg (N := 15) ?hd (xs := ([a1] : List ByteArray)) (inner := [.string a1]) (ok := fun _ => True) (okp := fun _ => True) ?hr ?hp (fun _ hk => hk) trivial (Below.refl _ _) (Nat.le_refl _) (by simp) ?_; (case hd => rfl); (case hg => rfl); (case hr => first | (go_simp; done) | (go_simp; rfl)); (case hp => exact (Reps.one (show Kd.M Kd.string _ _ _ a1 [.string a1] from rfl) (Reps.none _ _))); intro v361 w23 ho24 hb hg_ hnew_; clear hg_ hnew_; (first | rw [← Ny360.out] at ho24 | (simp only [Int.reduceToNat] at ho24; rw [← Ny360.out] at ho24)); have HO362 := Aside0.mk (Kd.R_lower ho24 (below_size oB)); replace HO358 := beS1 HO358 BK354 hb; replace BK354 := kp_ #[.slice Ao11 t356.length co11, .int .i64 t359] BK354 hb; replace BK355 := kb_ BK355 hb; replace HB := Aside0.mk (below_step oB hb); clear hb ho24; obtain ⟨Ao25, co25, eo25⟩ := Kd.R_slice HO362.out; subst eo25) | ((with_reducible refine gate_callee (f := 46) rfl ?_); refine gl_ 16 Tryz.func46 (impl_ready.calls k _ _ t356 t359 _ _ y360 false _ (rcS0 HO358) (rnS HO358) (kO HO362) (ko HO362) A13.out) ?_; rintro e w26 ⟨rfl, hb⟩; refine ⟨_, rfl, ?_⟩; replace HO358 := beS0 HO358 hb; replace HO362 := kr_ HO362 hb; replace BK354 := kb_ BK354 hb; replace BK355 := kb_ BK355 hb; replace HB := Aside0.mk (below_step oB hb)))
   go_meet
   case rel => exact ⟨_, (true), oS, H', ⟨by first | omega | exact Nat.le_refl _⟩, ⟨by (with_reducible repeat (first | apply Kd.S_alloc | apply Kd.S_drewN | apply Kd.S_drew)); exact HO358.out⟩, ⟨oF BK354⟩, ⟨oF BK355⟩, ⟨oB⟩⟩
 case rest =>
  clear HC5
  obtain ⟨kq, x21_4, rfl, HA, HJ4, HO_355000, BK354, BK355, HB⟩ := hcut
  cases kq with
  | zero => exact absurd HA.out (by simp [impl_makeAt.j0])
  | succ kj4 =>
   have H := HA.out
   clear HA
   simp only [impl_makeAt.j0] at H
   replace H := itB H
   rcases H with ⟨rfl, H⟩ | ⟨rfl, H⟩
   ·simp only [Option.some.injEq, Prod.mk.injEq] at H
    obtain ⟨rfl, rfl, rfl⟩ := H
    have hnb28 := NB354_355.out
    have hnc28 := NB355_354.out
    obtain ⟨⟨_, _⟩, _, _⟩ := z2 BK354
    obtain ⟨⟨_, _⟩, _, _⟩ := z2 BK355
    go_wp2
    refine bodyPost_ret (results_ct rfl _ _ gb355 26 #[.slice Ao11 t356.length co11, .int .i64 t359] (0, 0) _ rfl (oP BK355) Tryz.underlying26 rfl (by kernel_rfl)) rfl ?_
    exact ⟨_, oE, by (with_reducible repeat (first | apply Kd.S_alloc | apply Kd.S_drewN | apply Kd.S_drew)); exact Kd.S_mono (Kd.S_far (p := ⟨gb355, 1, none⟩) (Kd.S_far (p := ⟨gb355, 0, none⟩) (Kd.S_types HO_355000.out BK355.out (by decide)) (fun _ hk => hk.2) (.slice Ao11 t356.length co11)) (fun _ hk => hk.2) (.int .i64 t359)) (fun _ hk => trivial), oB⟩
   ·replace H := bA H
    obtain ⟨⟨t364, t365, t366, t367, t370, t373, t376, t377⟩, A31, H⟩ := H
    try dsimp only at H
    by_cases c32 : t377 = 0
    ·rw [if_pos c32] at H
     have c32b0 : (t377 == 0) = true := beq_iff_eq.mpr c32
     have c32b1 : (t377 != 0) = false := bne_eq_false_iff_eq.mpr c32
     clear c32
     replace H := bA H
     obtain ⟨t379, A33, H⟩ := H
     try dsimp only at H
     by_cases c34 : t379 = 0
     ·rw [if_pos c34] at H
      have c34b0 : (t379 == 0) = true := beq_iff_eq.mpr c34
      have c34b1 : (t379 != 0) = false := bne_eq_false_iff_eq.mpr c34
      clear c34
      have HC35 := Aside0.mk H
      clear H
      have hnb36 := NB354_355.out
      have hnc36 := NB355_354.out
      obtain ⟨⟨_, _⟩, _, _⟩ := z2 BK354
      go_upto_region 9 with (first | ((with_reducible refine gate_callee (f := 57) rfl ?_); refine gl_ 26 Tryz.func57 (impl_spotOf.calls kj4 _ _ t356 t359 a1 t364 t365 t366 t367 t370 t373 t376 t377 _ (rcS0 HO_355000) (rnS HO_355000) A31.out) ?_; rintro e w38 ⟨v368, v371, v374, rfl, ho0, ho1, ho2, hb⟩; refine ⟨_, rfl, ?_⟩; have HO369 := Aside0.mk (Kd.R_lower ho0 (below_size oB)); have HO372 := Aside0.mk (Kd.R_lower ho1 (below_size oB)); have HO375 := Aside0.mk (Kd.R_lower ho2 (below_size oB)); replace HO_355000 := tdS3 (olS0 HO_355000 hb) (Kd.R_base ho0) (Kd.R_base ho1) (Kd.R_base ho2); replace BK354 := kb_ BK354 hb; replace BK355 := kb_ BK355 hb; replace HB := Aside0.mk (below_step oB hb); (try clear ho1); (try clear ho2)) | ((with_reducible refine gate_dst (N := 8) rfl ?_); (try (refine gate_guard (by rfl) ?_; dsimp only)); refine bx_ 8 #[.int .i64 0, .int .i64 0, .int .i64 0, .slice none 0 0, .slice none 0 0, .slice none 0 0, .string (⟨#[]⟩ : ByteArray)] 84 ?_; intro gb378 hg w39 hbox hb; have BK378 := Aside0.mk (hbox); have GW378 := gs_ hg; have NB354_378 := nl_ hg BK354; have NB378_354 := nr_ hg BK354; have NB355_378 := nl_ hg BK355; have NB378_355 := nr_ hg BK355; replace HO_355000 := beS0 HO_355000 hb; replace HO369 := kr_ HO369 hb; replace HO372 := kr_ HO372 hb; replace HO375 := kr_ HO375 hb; replace BK354 := kb_ BK354 hb; replace BK355 := kb_ BK355 hb; replace HB := Aside0.mk (below_step oB hb); clear hb hbox hg; have hnb40 := NB378_354.out; have hnc40 := NB354_378.out; have hnb41 := NB378_355.out; have hnc41 := NB355_378.out; obtain ⟨⟨_, _, _, _, _, _, _⟩, _, _, _, _, _, _, _⟩ := z7 BK378; obtain ⟨Ao43, co43, eo43⟩ := Kd.R_slice HO369.out; subst eo43; obtain ⟨Ao44, co44, eo44⟩ := Kd.R_slice HO372.out; subst eo44; obtain ⟨Ao45, co45, eo45⟩ := Kd.R_slice HO375.out; subst eo45) | ((with_reducible refine gate_callee (f := 58) rfl ?_); refine gl_ 39 Tryz.func58 (impl_EntOf.calls kj4 t364 t365 t366 _ _ t367 _ _ t370 _ _ t373 t376 t379 _ (rcR1 HO369 BK378) (ko HO369) (rcR1 HO372 BK378) (ko HO372) (rcR1 HO375 BK378) (ko HO375) A33.out) ?_; rintro e w46 ⟨rfl, hb⟩; refine ⟨_, rfl, ?_⟩; replace HO_355000 := beS1 HO_355000 BK378 hb; replace HO369 := beR1 HO369 BK378 hb; replace HO372 := beR1 HO372 BK378 hb; replace HO375 := beR1 HO375 BK378 hb; replace BK354 := kb_ BK354 hb; replace BK355 := kb_ BK355 hb; replace BK378 := kp_ #[.int .i64 t364, .int .i64 t365, .int .i64 t366, .slice Ao43 t367.length co43, .slice Ao44 t370.length co44, .slice Ao45 t373.length co45, .string t376] BK378 hb; replace HB := Aside0.mk (below_step oB hb); (try clear hk)))
      (try simp only [Act.put, List.setIfInBounds_toArray, List.set_cons_zero, List.set_cons_succ])
      go_cut [42] (fun v42 wc => ∃ (kq : Nat) (x42_34 : Bool), v42 = .bool x42_34 ∧ Aside0 (impl_makeAt.j1 kq a2 x42_34 t356 t359 t364 t365 t366 t367 t370 t373 t376 = some (r1, r2, r3)) ∧ Aside0 (kq ≤ kj4) ∧ Aside0 (Kd.S k51 51 wc w.heap.size (fun k_ => some k_ ≠ ((.slice Ao43 t367.length co43) : Value).ownBlock ∧ some k_ ≠ ((.slice Ao44 t370.length co44) : Value).ownBlock ∧ some k_ ≠ ((.slice Ao45 t373.length co45) : Value).ownBlock) (.slice Ao11 t356.length co11) t356) ∧ Aside0 (Kd.R (Kd.int .u8) 5 wc w.heap.size (fun _ => True) (.slice Ao43 t367.length co43) t367) ∧ Aside0 (Kd.R k65 65 wc w.heap.size (fun _ => True) (.slice Ao44 t370.length co44) t370) ∧ Aside0 (Kd.R k71 71 wc w.heap.size (fun _ => True) (.slice Ao45 t373.length co45) t373) ∧ Aside0 (wc.heap[gb354]? = some (.cells #[(.slice Ao11 t356.length co11), .int .i64 t359] 26 (0, 0))) ∧ Aside0 (wc.heap[gb355]? = some (.cells #[(.slice none 0 0), .int .i64 0] 26 (0, 0))) ∧ Aside0 (wc.heap[gb378]? = some (.cells #[.int .i64 t364, .int .i64 t365, .int .i64 t366, (.slice Ao43 t367.length co43), (.slice Ao44 t370.length co44), (.slice Ao45 t373.length co45), .string t376] 84 (0, 0))) ∧ Aside0 (Below w.heap.size w wc))
      case first =>
       have H := HC35.out
       clear HC35
       by_cases c47 : (t370.length : Int) = 10
       ·rw [if_pos c47] at H
        have c47b0 : ((t370.length : Int) == 10) = true := beq_iff_eq.mpr c47
        have c47b1 : ((t370.length : Int) != 10) = false := bne_eq_false_iff_eq.mpr c47
        clear c47
        (first | rw [c47b0] | rw [c47b2] | (simp only [i64_w, i32_w]; rw [c47b0]) | skip)
        have H' := Aside0.mk H
        clear H
        have hnb48 := NB378_354.out
        have hnc48 := NB354_378.out
        have hnb49 := NB378_355.out
        have hnc49 := NB355_378.out
        obtain ⟨⟨_, _, _, _, _, _, _⟩, _, _, _, _, _, _, _⟩ := z7 BK378
        go_wp2
        go_meet
        case rel => exact ⟨_, (true), oS, H', ⟨by have := HJ4.out; first | omega | exact Nat.le_refl _⟩, ⟨by (with_reducible repeat (first | apply Kd.S_alloc | apply Kd.S_drewN | apply Kd.S_drew)); exact Kd.S_mono HO_355000.out (fun _ hk => ⟨hk.1.1.2, ⟨hk.1.2, hk.2⟩⟩)⟩, ⟨oR HO369⟩, ⟨oR HO372⟩, ⟨oR HO375⟩, ⟨oF BK354⟩, ⟨oF BK355⟩, ⟨oF BK378⟩, ⟨oB⟩⟩
       ·rw [if_neg c47] at H
        have c47b0 : ((t370.length : Int) == 10) = false := beq_eq_false_iff_ne.mpr c47
        have c47b1 : ((t370.length : Int) != 10) = true := bne_iff_ne.mpr c47
        (first | rw [c47b0] | rw [c47b2] | (simp only [i64_w, i32_w]; rw [c47b0]) | skip)
        by_cases c51 : (t356.length : Int) = 30
        ·rw [if_pos c51] at H
         have c51b0 : ((t356.length : Int) == 30) = true := beq_iff_eq.mpr c51
         have c51b1 : ((t356.length : Int) != 30) = false := bne_eq_false_iff_eq.mpr c51
         clear c51
         have H' := Aside0.mk H
         clear H
         have hnb52 := NB378_354.out
         have hnc52 := NB354_378.out
         have hnb53 := NB378_355.out
         have hnc53 := NB355_378.out
         obtain ⟨⟨_, _, _, _, _, _, _⟩, _, _, _, _, _, _, _⟩ := z7 BK378
         have hnb55 := NB354_355.out
         have hnc55 := NB355_354.out
         obtain ⟨⟨_, _⟩, _, _⟩ := z2 BK354
         go_wp2
         go_meet
         case rel => exact ⟨_, (true), oS, H', ⟨by have := HJ4.out; first | omega | exact Nat.le_refl _⟩, ⟨by (with_reducible repeat (first | apply Kd.S_alloc | apply Kd.S_drewN | apply Kd.S_drew)); exact Kd.S_mono HO_355000.out (fun _ hk => ⟨hk.1.1.2, ⟨hk.1.2, hk.2⟩⟩)⟩, ⟨oR HO369⟩, ⟨oR HO372⟩, ⟨oR HO375⟩, ⟨oF BK354⟩, ⟨oF BK355⟩, ⟨oF BK378⟩, ⟨oB⟩⟩
        ·rw [if_neg c51] at H
         have c51b0 : ((t356.length : Int) == 30) = false := beq_eq_false_iff_ne.mpr c51
         have c51b1 : ((t356.length : Int) != 30) = true := bne_iff_ne.mpr c51
         have H' := Aside0.mk H
         clear H
         have hnb57 := NB378_354.out
         have hnc57 := NB354_378.out
         have hnb58 := NB378_355.out
         have hnc58 := NB355_378.out
         obtain ⟨⟨_, _, _, _, _, _, _⟩, _, _, _, _, _, _, _⟩ := z7 BK378
         have hnb60 := NB354_355.out
         have hnc60 := NB355_354.out
         obtain ⟨⟨_, _⟩, _, _⟩ := z2 BK354
         go_wp2
         go_meet
         case rel => exact ⟨_, ((t359 == 1000)), oS, H', ⟨by have := HJ4.out; first | omega | exact Nat.le_refl _⟩, ⟨by (with_reducible repeat (first | apply Kd.S_alloc | apply Kd.S_drewN | apply Kd.S_drew)); exact Kd.S_mono HO_355000.out (fun _ hk => ⟨hk.1.1.2, ⟨hk.1.2, hk.2⟩⟩)⟩, ⟨oR HO369⟩, ⟨oR HO372⟩, ⟨oR HO375⟩, ⟨oF BK354⟩, ⟨oF BK355⟩, ⟨oF BK378⟩, ⟨oB⟩⟩
      case rest =>
       clear HC35
       try clear c32
       try clear c32b0
       try clear c32b1
       try clear c34
       obtain ⟨kq, x42_34, rfl, HA, HJ34, HO_355000, HO_379003, HO_379004, HO_379005, BK354, BK355, BK378, HB⟩ := hcut
       cases kq with
       | zero => exact absurd HA.out (by simp [impl_makeAt.j1])
       | succ kj34 =>
        have H := HA.out
        clear HA
        simp only [impl_makeAt.j1] at H
        replace H := itB H
        rcases H with ⟨rfl, H⟩ | ⟨rfl, H⟩
        ·simp only [Option.some.injEq, Prod.mk.injEq] at H
         obtain ⟨rfl, rfl, rfl⟩ := H
         have hnb63 := NB354_355.out
         have hnc63 := NB355_354.out
         have hnb64 := NB354_378.out
         have hnc64 := NB378_354.out
         obtain ⟨⟨_, _⟩, _, _⟩ := z2 BK354
         have hnb66 := NB355_378.out
         have hnc66 := NB378_355.out
         obtain ⟨⟨_, _⟩, _, _⟩ := z2 BK355
         go_wp2
         refine bodyPost_ret (results_ct rfl _ _ gb355 26 #[.slice Ao11 t356.length co11, .int .i64 t359] (0, 0) _ rfl (oP BK355) Tryz.underlying26 rfl (by kernel_rfl)) rfl ?_
         exact ⟨_, oE, by (with_reducible repeat (first | apply Kd.S_alloc | apply Kd.S_drewN | apply Kd.S_drew)); exact Kd.S_mono (Kd.S_far (p := ⟨gb355, 1, none⟩) (Kd.S_far (p := ⟨gb355, 0, none⟩) (Kd.S_types HO_355000.out BK355.out (by decide)) (fun _ hk => hk.2) (.slice Ao11 t356.length co11)) (fun _ hk => hk.2) (.int .i64 t359)) (fun _ hk => trivial), oB⟩
        ·replace H := bA H
         obtain ⟨⟨t381, t384⟩, A68, H⟩ := H
         try dsimp only at H
         replace H := bA H
         obtain ⟨⟨t385, t388⟩, A69, H⟩ := H
         try dsimp only at H
         simp only [Option.some.injEq, Prod.mk.injEq] at H
         obtain ⟨rfl, rfl, rfl⟩ := H
         have hnb70 := NB354_355.out
         have hnc70 := NB355_354.out
         have hnb71 := NB354_378.out
         have hnc71 := NB378_354.out
         obtain ⟨⟨_, _⟩, _, _⟩ := z2 BK354
         try go_wp2_with (first | ((with_reducible refine gate_dst (N := 10) rfl ?_); (try (refine gate_guard (by rfl) ?_; dsimp only)); refine bx_ 10 #[.int .i64 0, .int .i64 0, .int .i64 0, .slice none 0 0, .slice none 0 0, .slice none 0 0] 51 ?_; intro gb380 hg w73 hbox hb; have BK380 := Aside0.mk (hbox); have GW380 := gs_ hg; have NB354_380 := nl_ hg BK354; have NB380_354 := nr_ hg BK354; have NB355_380 := nl_ hg BK355; have NB380_355 := nr_ hg BK355; have NB378_380 := nl_ hg BK378; have NB380_378 := nr_ hg BK378; replace HO_355000 := Aside0.mk (Kd.S_below (Kd.S_elderB (nS0 HO_355000) gb380 (Nat.le_of_eq hg.symm)) hb); replace HO_379003 := kr_ HO_379003 hb; replace HO_379004 := kr_ HO_379004 hb; replace HO_379005 := kr_ HO_379005 hb; replace BK354 := kb_ BK354 hb; replace BK355 := kb_ BK355 hb; replace BK378 := kb_ BK378 hb; replace HB := Aside0.mk (below_step oB hb); clear hb hbox hg; have hnb74 := NB380_354.out; have hnc74 := NB354_380.out; have hnb75 := NB380_355.out; have hnc75 := NB355_380.out; have hnb76 := NB380_378.out; have hnc76 := NB378_380.out; obtain ⟨⟨_, _, _, _, _, _⟩, _, _, _, _, _, _⟩ := z6 BK380; obtain ⟨⟨_, _⟩, _, _⟩ := z2 BK354))
         have n0_ : Aside0 (Kd.S k51 51 (((((((w73.setCell ⟨gb380, 0, none⟩ (.int .i64 t359)).setCell ⟨gb380, 1, none⟩ (.int .i64 a2)).setCell ⟨gb380, 2, none⟩ (.int .i64 1)).setCell ⟨gb380, 3, none⟩ (.slice none 0 0)).setCell ⟨gb380, 4, none⟩ (.slice none 0 0)).setCell ⟨gb380, 5, none⟩ (.slice none 0 0)).setCell ⟨gb354, 1, none⟩ (.int .i64 (wrap64 (t359 + 1)))) w.heap.size (fun k_ => some k_ ≠ (.slice Ao43 t367.length co43 : Value).ownBlock ∧ some k_ ≠ (.slice Ao44 t370.length co44 : Value).ownBlock ∧ some k_ ≠ (.slice Ao45 t373.length co45 : Value).ownBlock ∧ k_ ≠ gb380) (.slice Ao11 t356.length co11) t356) := ⟨by (with_reducible repeat (first | apply Kd.S_alloc | apply Kd.S_drewN | apply Kd.S_drew)); exact Kd.S_mono (Kd.S_far (p := ⟨gb354, 1, none⟩) (Kd.S_far (p := ⟨gb380, 5, none⟩) (Kd.S_far (p := ⟨gb380, 4, none⟩) (Kd.S_far (p := ⟨gb380, 3, none⟩) (Kd.S_far (p := ⟨gb380, 2, none⟩) (Kd.S_far (p := ⟨gb380, 1, none⟩) (Kd.S_far (p := ⟨gb380, 0, none⟩) (Kd.S_types (Kd.S_mono HO_355000.out (fun k_ hk => (⟨hk, hk.2⟩ : _ ∧ k_ ≠ gb380))) BK354.out (by decide)) (fun _ hk => hk.1.2) (.int .i64 t359)) (fun _ hk => hk.1.2) (.int .i64 a2)) (fun _ hk => hk.1.2) (.int .i64 1)) (fun _ hk => hk.1.2) (.slice none 0 0)) (fun _ hk => hk.1.2) (.slice none 0 0)) (fun _ hk => hk.1.2) (.slice none 0 0)) (fun _ hk => hk.2) (.int .i64 (wrap64 (t359 + 1)))) (fun _ hk => ⟨hk.1.1.1.1, ⟨hk.1.1.1.2.1, ⟨hk.1.1.1.2.2, hk.1.1.2⟩⟩⟩)⟩
         have n1_ : Aside0 (Kd.R (Kd.int .u8) 5 (((((((w73.setCell ⟨gb380, 0, none⟩ (.int .i64 t359)).setCell ⟨gb380, 1, none⟩ (.int .i64 a2)).setCell ⟨gb380, 2, none⟩ (.int .i64 1)).setCell ⟨gb380, 3, none⟩ (.slice none 0 0)).setCell ⟨gb380, 4, none⟩ (.slice none 0 0)).setCell ⟨gb380, 5, none⟩ (.slice none 0 0)).setCell ⟨gb354, 1, none⟩ (.int .i64 (wrap64 (t359 + 1)))) w.heap.size (fun _ => True) (.slice Ao43 t367.length co43) t367) := ⟨by (with_reducible repeat (first | apply Kd.R_alloc | apply Kd.R_drewN | apply Kd.R_drew)); exact Kd.R_mono (Kd.R_far (p := ⟨gb354, 1, none⟩) (Kd.R_far (p := ⟨gb380, 5, none⟩) (Kd.R_far (p := ⟨gb380, 4, none⟩) (Kd.R_far (p := ⟨gb380, 3, none⟩) (Kd.R_far (p := ⟨gb380, 2, none⟩) (Kd.R_far (p := ⟨gb380, 1, none⟩) (Kd.R_far (p := ⟨gb380, 0, none⟩) (Kd.R_types (Kd.R_types HO_379003.out BK380.out (by decide)) BK354.out (by decide)) (fun _ hk => hk.1.2) (.int .i64 t359)) (fun _ hk => hk.1.2) (.int .i64 a2)) (fun _ hk => hk.1.2) (.int .i64 1)) (fun _ hk => hk.1.2) (.slice none 0 0)) (fun _ hk => hk.1.2) (.slice none 0 0)) (fun _ hk => hk.1.2) (.slice none 0 0)) (fun _ hk => hk.2) (.int .i64 (wrap64 (t359 + 1)))) (fun _ hk => trivial)⟩
         have n2_ : Aside0 (Kd.R k65 65 (((((((w73.setCell ⟨gb380, 0, none⟩ (.int .i64 t359)).setCell ⟨gb380, 1, none⟩ (.int .i64 a2)).setCell ⟨gb380, 2, none⟩ (.int .i64 1)).setCell ⟨gb380, 3, none⟩ (.slice none 0 0)).setCell ⟨gb380, 4, none⟩ (.slice none 0 0)).setCell ⟨gb380, 5, none⟩ (.slice none 0 0)).setCell ⟨gb354, 1, none⟩ (.int .i64 (wrap64 (t359 + 1)))) w.heap.size (fun _ => True) (.slice Ao44 t370.length co44) t370) := ⟨by (with_reducible repeat (first | apply Kd.R_alloc | apply Kd.R_drewN | apply Kd.R_drew)); exact Kd.R_mono (Kd.R_far (p := ⟨gb354, 1, none⟩) (Kd.R_far (p := ⟨gb380, 5, none⟩) (Kd.R_far (p := ⟨gb380, 4, none⟩) (Kd.R_far (p := ⟨gb380, 3, none⟩) (Kd.R_far (p := ⟨gb380, 2, none⟩) (Kd.R_far (p := ⟨gb380, 1, none⟩) (Kd.R_far (p := ⟨gb380, 0, none⟩) (Kd.R_types (Kd.R_types HO_379004.out BK380.out (by decide)) BK354.out (by decide)) (fun _ hk => hk.1.2) (.int .i64 t359)) (fun _ hk => hk.1.2) (.int .i64 a2)) (fun _ hk => hk.1.2) (.int .i64 1)) (fun _ hk => hk.1.2) (.slice none 0 0)) (fun _ hk => hk.1.2) (.slice none 0 0)) (fun _ hk => hk.1.2) (.slice none 0 0)) (fun _ hk => hk.2) (.int .i64 (wrap64 (t359 + 1)))) (fun _ hk => trivial)⟩
         have n3_ : Aside0 (Kd.R k71 71 (((((((w73.setCell ⟨gb380, 0, none⟩ (.int .i64 t359)).setCell ⟨gb380, 1, none⟩ (.int .i64 a2)).setCell ⟨gb380, 2, none⟩ (.int .i64 1)).setCell ⟨gb380, 3, none⟩ (.slice none 0 0)).setCell ⟨gb380, 4, none⟩ (.slice none 0 0)).setCell ⟨gb380, 5, none⟩ (.slice none 0 0)).setCell ⟨gb354, 1, none⟩ (.int .i64 (wrap64 (t359 + 1)))) w.heap.size (fun _ => True) (.slice Ao45 t373.length co45) t373) := ⟨by (with_reducible repeat (first | apply Kd.R_alloc | apply Kd.R_drewN | apply Kd.R_drew)); exact Kd.R_mono (Kd.R_far (p := ⟨gb354, 1, none⟩) (Kd.R_far (p := ⟨gb380, 5, none⟩) (Kd.R_far (p := ⟨gb380, 4, none⟩) (Kd.R_far (p := ⟨gb380, 3, none⟩) (Kd.R_far (p := ⟨gb380, 2, none⟩) (Kd.R_far (p := ⟨gb380, 1, none⟩) (Kd.R_far (p := ⟨gb380, 0, none⟩) (Kd.R_types (Kd.R_types HO_379005.out BK380.out (by decide)) BK354.out (by decide)) (fun _ hk => hk.1.2) (.int .i64 t359)) (fun _ hk => hk.1.2) (.int .i64 a2)) (fun _ hk => hk.1.2) (.int .i64 1)) (fun _ hk => hk.1.2) (.slice none 0 0)) (fun _ hk => hk.1.2) (.slice none 0 0)) (fun _ hk => hk.1.2) (.slice none 0 0)) (fun _ hk => hk.2) (.int .i64 (wrap64 (t359 + 1)))) (fun _ hk => trivial)⟩
         have n4_ : Aside0 ((((((((w73.setCell ⟨gb380, 0, none⟩ (.int .i64 t359)).setCell ⟨gb380, 1, none⟩ (.int .i64 a2)).setCell ⟨gb380, 2, none⟩ (.int .i64 1)).setCell ⟨gb380, 3, none⟩ (.slice none 0 0)).setCell ⟨gb380, 4, none⟩ (.slice none 0 0)).setCell ⟨gb380, 5, none⟩ (.slice none 0 0)).setCell ⟨gb354, 1, none⟩ (.int .i64 (wrap64 (t359 + 1)))).heap[gb354]? = some (.cells #[.slice Ao11 t356.length co11, .int .i64 (wrap64 (t359 + 1))] 26 (0, 0))) := ⟨oP BK354⟩
         have n5_ : Aside0 ((((((((w73.setCell ⟨gb380, 0, none⟩ (.int .i64 t359)).setCell ⟨gb380, 1, none⟩ (.int .i64 a2)).setCell ⟨gb380, 2, none⟩ (.int .i64 1)).setCell ⟨gb380, 3, none⟩ (.slice none 0 0)).setCell ⟨gb380, 4, none⟩ (.slice none 0 0)).setCell ⟨gb380, 5, none⟩ (.slice none 0 0)).setCell ⟨gb354, 1, none⟩ (.int .i64 (wrap64 (t359 + 1)))).heap[gb355]? = some (.cells #[.slice none 0 0, .int .i64 0] 26 (0, 0))) := ⟨oF BK355⟩
         have n6_ : Aside0 ((((((((w73.setCell ⟨gb380, 0, none⟩ (.int .i64 t359)).setCell ⟨gb380, 1, none⟩ (.int .i64 a2)).setCell ⟨gb380, 2, none⟩ (.int .i64 1)).setCell ⟨gb380, 3, none⟩ (.slice none 0 0)).setCell ⟨gb380, 4, none⟩ (.slice none 0 0)).setCell ⟨gb380, 5, none⟩ (.slice none 0 0)).setCell ⟨gb354, 1, none⟩ (.int .i64 (wrap64 (t359 + 1)))).heap[gb378]? = some (.cells #[.int .i64 t364, .int .i64 t365, .int .i64 t366, .slice Ao43 t367.length co43, .slice Ao44 t370.length co44, .slice Ao45 t373.length co45, .string t376] 84 (0, 0))) := ⟨oF BK378⟩
         have n7_ : Aside0 ((((((((w73.setCell ⟨gb380, 0, none⟩ (.int .i64 t359)).setCell ⟨gb380, 1, none⟩ (.int .i64 a2)).setCell ⟨gb380, 2, none⟩ (.int .i64 1)).setCell ⟨gb380, 3, none⟩ (.slice none 0 0)).setCell ⟨gb380, 4, none⟩ (.slice none 0 0)).setCell ⟨gb380, 5, none⟩ (.slice none 0 0)).setCell ⟨gb354, 1, none⟩ (.int .i64 (wrap64 (t359 + 1)))).heap[gb380]? = some (.cells #[.int .i64 t359, .int .i64 a2, .int .i64 1, .slice none 0 0, .slice none 0 0, .slice none 0 0] 51 (0, 0))) := ⟨oP BK380⟩
         have n8_ : Aside0 (Below w.heap.size w (((((((w73.setCell ⟨gb380, 0, none⟩ (.int .i64 t359)).setCell ⟨gb380, 1, none⟩ (.int .i64 a2)).setCell ⟨gb380, 2, none⟩ (.int .i64 1)).setCell ⟨gb380, 3, none⟩ (.slice none 0 0)).setCell ⟨gb380, 4, none⟩ (.slice none 0 0)).setCell ⟨gb380, 5, none⟩ (.slice none 0 0)).setCell ⟨gb354, 1, none⟩ (.int .i64 (wrap64 (t359 + 1))))) := ⟨oB⟩
         (try clear HO_355000)
         (try clear HO_379003)
         (try clear HO_379004)
         (try clear HO_379005)
         (try clear BK354)
         (try clear BK355)
         (try clear BK378)
         (try clear BK380)
         (try clear HB)
         generalize (((((((w73.setCell ⟨gb380, 0, none⟩ (.int .i64 t359)).setCell ⟨gb380, 1, none⟩ (.int .i64 a2)).setCell ⟨gb380, 2, none⟩ (.int .i64 1)).setCell ⟨gb380, 3, none⟩ (.slice none 0 0)).setCell ⟨gb380, 4, none⟩ (.slice none 0 0)).setCell ⟨gb380, 5, none⟩ (.slice none 0 0)).setCell ⟨gb354, 1, none⟩ (.int .i64 (wrap64 (t359 + 1)))) = w79 at n0_ n1_ n2_ n3_ n4_ n5_ n6_ n7_ n8_ ⊢
         have HO_355000 := n0_
         have HO_379003 := n1_
         have HO_379004 := n2_
         have HO_379005 := n3_
         have BK354 := n4_
         have BK355 := n5_
         have BK378 := n6_
         have BK380 := n7_
         have HB := n8_
         clear n0_ n1_ n2_ n3_ n4_ n5_ n6_ n7_ n8_
         replace HO_355000 := Aside0.mk (Kd.S_drew HO_355000.out)
         replace HO_379003 := Aside0.mk (Kd.R_drew HO_379003.out)
         replace HO_379004 := Aside0.mk (Kd.R_drew HO_379004.out)
         replace HO_379005 := Aside0.mk (Kd.R_drew HO_379005.out)
         replace BK354 := Aside0.mk (blk_drew BK354.out)
         replace BK355 := Aside0.mk (blk_drew BK355.out)
         replace BK378 := Aside0.mk (blk_drew BK378.out)
         replace BK380 := Aside0.mk (blk_drew BK380.out)
         replace HB := Aside0.mk (below_drew1 HB.out)
         refine st_ 9 (fun w' => w'.cell? ⟨gb378, 0, none⟩ = some (.int .i64 t364) ∧ w'.cell? ⟨gb378, 1, none⟩ = some (.int .i64 t365) ∧ w'.cell? ⟨gb378, 2, none⟩ = some (.int .i64 t366) ∧ w'.cell? ⟨gb378, 3, none⟩ = some (.slice Ao43 t367.length co43) ∧ w'.cell? ⟨gb378, 4, none⟩ = some (.slice Ao44 t370.length co44) ∧ w'.cell? ⟨gb378, 5, none⟩ = some (.slice Ao45 t373.length co45) ∧ w'.cell? ⟨gb378, 6, none⟩ = some (.string t376) ∧ w'.cell? ⟨gb354, 0, none⟩ = some (.slice Ao11 t356.length co11) ∧ w'.cell? ⟨gb354, 1, none⟩ = some (.int .i64 (wrap64 (t359 + 1))) ∧ w'.cell? ⟨gb380, 0, none⟩ = some (.int .i64 t359) ∧ w'.cell? ⟨gb380, 1, none⟩ = some (.int .i64 a2) ∧ w'.cell? ⟨gb380, 2, none⟩ = some (.int .i64 1) ∧ w'.cell? ⟨gb380, 3, none⟩ = some (.slice none 0 0) ∧ w'.cell? ⟨gb380, 4, none⟩ = some (.slice none 0 0) ∧ w'.cell? ⟨gb380, 5, none⟩ = some (.slice none 0 0)) impl_makeAt.tab13 impl_makeAt.bits13 oH (fun hHeld HT_ HW_ => ?_)
         generalize w79.drew = w80 at HO_355000 HO_379003 HO_379004 HO_379005 BK354 BK355 BK378 BK380 HB hHeld ⊢
         refine pu_ 2 70 HT_ ?_
         refine ta_ 0 68 HT_ HW_ hHeld ?_
         refine ta_ 1 69 HT_ HW_ hHeld ?_
         refine ta_ 3 71 HT_ HW_ hHeld ?_
         refine ta_ 5 73 HT_ HW_ hHeld ?_
         refine on_ 4 72 HT_ (fun K hK => ?_)
         refine gr_ 72 Tryz.func59 (impl_spot_enter.calls kj34 t364 t365 t366 _ _ t367 _ _ t370 _ _ t373 t376 _ _ t356 (wrap64 (t359 + 1)) t359 t381 t384 _ (kO HO_379003) (ko HO_379003) (kO HO_379004) (ko HO_379004) (kO HO_379005) (ko HO_379005) (rcS0 HO_355000) (rnS HO_355000) A68.out) ?_
         rintro e w81 ⟨v382, rfl, ho0, hb⟩
         refine ⟨_, rfl, ?_⟩
         have HO383 := Aside0.mk (Kd.S_lower (Kd.S_newB (Kd.S_new' (Kd.S_new' (Kd.S_new' (Kd.S_new' ho0 (ltS0 HO_355000)) (kl_ HO_379003)) (kl_ HO_379004)) (kl_ HO_379005)) (g := gb380) (o := .cells #[.int .i64 t359, .int .i64 a2, .int .i64 1, .slice none 0 0, .slice none 0 0, .slice none 0 0] 51 (0, 0)) (oF BK380)) (below_size oB))
         replace HO_355000 := elS0 HO_355000 (Kd.S_base ho0) hb
         replace HO_379003 := kr_ HO_379003 hb
         replace HO_379004 := kr_ HO_379004 hb
         replace HO_379005 := kr_ HO_379005 hb
         replace BK354 := kb_ BK354 hb
         replace BK355 := kb_ BK355 hb
         replace BK378 := kb_ BK378 hb
         replace BK380 := kb_ BK380 hb
         replace HB := Aside0.mk (below_step oB hb)
         obtain ⟨Ao82, co82, eo82⟩ := Kd.S_slice HO383.out
         (first | subst eo82 | (injection eo82 with f1_ f2_ f3_; have f4_ := f1_.symm; have f5_ := f3_.symm; clear f1_ f2_ f3_; subst f4_; subst f5_))
         refine hk_ hK 72 oH (fun hHeld => ?_)
         clear hK K
         refine on_ 6 74 HT_ (fun K hK => ?_)
         refine goes_ Tryz.func50 (by kernel_rfl) rfl #[.agg #[.slice Ao82 t381.length co82, .int .i64 t384], .agg #[.int .i64 t359, .int .i64 a2, .int .i64 1, .slice none 0 0, .slice none 0 0, .slice none 0 0]] (by rfl) rfl rfl oL ?_
         refine (impl_SetInode.calls kj34 _ _ t381 t384 t359 a2 1 _ _ ([] : List Int) _ _ ([] : List (S65)) _ _ ([] : List (S71)) t385 t388 _ (rcS0 HO383) (rnS HO383) ?side3 ?side4 ?side5 ?side6 ?side7 ?side8 A69.out).mono ?_
         (case side3 => exact Kd.C_nil _ _)
         (case side4 => exact Nat.le_refl _)
         (case side5 => exact Kd.C_nil _ _)
         (case side6 => exact Nat.le_refl _)
         (case side7 => exact Kd.C_nil _ _)
         (case side8 => exact Nat.le_refl _)
         rintro e w83 ⟨v386, rfl, ho0, hb⟩
         refine ⟨_, rfl, ?_⟩
         have HO387 := Aside0.mk (Kd.S_lower (Kd.S_newB (Kd.S_new' (Kd.S_new' (Kd.S_new' (Kd.S_new' (Kd.S_new' ho0 (ltS0 HO_355000)) (kl_ HO_379003)) (kl_ HO_379004)) (kl_ HO_379005)) (ltS0 HO383)) (g := gb380) (o := .cells #[.int .i64 t359, .int .i64 a2, .int .i64 1, .slice none 0 0, .slice none 0 0, .slice none 0 0] 51 (0, 0)) (oF BK380)) (below_size oB))
         replace HO_355000 := elS0 HO_355000 (Kd.S_base ho0) hb
         replace HO_379003 := kr_ HO_379003 hb
         replace HO_379004 := kr_ HO_379004 hb
         replace HO_379005 := kr_ HO_379005 hb
         replace HO383 := elS0 HO383 (Kd.S_base ho0) hb
         replace BK354 := kb_ BK354 hb
         replace BK355 := kb_ BK355 hb
         replace BK378 := kb_ BK378 hb
         replace BK380 := kb_ BK380 hb
         replace HB := Aside0.mk (below_step oB hb)
         obtain ⟨Ao84, co84, eo84⟩ := Kd.S_slice HO387.out
         (first | subst eo84 | (injection eo84 with f1_ f2_ f3_; have f4_ := f1_.symm; have f5_ := f3_.symm; clear f1_ f2_ f3_; subst f4_; subst f5_))
         refine hk_ hK 74 oH (fun hHeld => ?_)
         clear hK K
         refine one_ (i := 7) (N := none) (lb 9 255) rfl rfl (one_of HT_.out (by kernel_rfl)) (by decide) (fun K hK => ?_)
         have hs85 : w83.cell? ⟨gb355, 0, none⟩ = some (.slice none 0 0) := (blk_cell BK355.out 0).trans rfl
         have hfs85 := blk_frozen BK355.out 0
         have hns85_0 := NB354_355.out
         have hns85_2 := NB378_355.out
         have hns85_3 := NB380_355.out
         have hms85_0 := NB355_354.out
         have hms85_2 := NB355_378.out
         have hms85_3 := NB355_380.out
         have hs86 : w83.cell? ⟨gb355, 1, none⟩ = some (.int .i64 0) := (blk_cell BK355.out 1).trans rfl
         have hfs86 := blk_frozen BK355.out 1
         have hns86_0 := NB354_355.out
         have hns86_2 := NB378_355.out
         have hns86_3 := NB380_355.out
         have hms86_0 := NB355_354.out
         have hms86_2 := NB355_378.out
         have hms86_3 := NB355_380.out
         refine skip_ (w1 := ?_) (by rfl) rfl ?_ ?_
         rotate_left
         ·go_simp
          rfl
         refine hK.out _ _ ⟨((cell_far (p := ⟨gb355, _, none⟩) NB378_355.out _).trans (((cell_far (p := ⟨gb355, _, none⟩) NB378_355.out _).trans (hHeld.1)))), ((cell_far (p := ⟨gb355, _, none⟩) NB378_355.out _).trans (((cell_far (p := ⟨gb355, _, none⟩) NB378_355.out _).trans (hHeld.2.1)))), ((cell_far (p := ⟨gb355, _, none⟩) NB378_355.out _).trans (((cell_far (p := ⟨gb355, _, none⟩) NB378_355.out _).trans (hHeld.2.2.1)))), ((cell_far (p := ⟨gb355, _, none⟩) NB378_355.out _).trans (((cell_far (p := ⟨gb355, _, none⟩) NB378_355.out _).trans (hHeld.2.2.2.1)))), ((cell_far (p := ⟨gb355, _, none⟩) NB378_355.out _).trans (((cell_far (p := ⟨gb355, _, none⟩) NB378_355.out _).trans (hHeld.2.2.2.2.1)))), ((cell_far (p := ⟨gb355, _, none⟩) NB378_355.out _).trans (((cell_far (p := ⟨gb355, _, none⟩) NB378_355.out _).trans (hHeld.2.2.2.2.2.1)))), ((cell_far (p := ⟨gb355, _, none⟩) NB378_355.out _).trans (((cell_far (p := ⟨gb355, _, none⟩) NB378_355.out _).trans (hHeld.2.2.2.2.2.2.1)))), ((cell_far (p := ⟨gb355, _, none⟩) NB354_355.out _).trans (((cell_far (p := ⟨gb355, _, none⟩) NB354_355.out _).trans (hHeld.2.2.2.2.2.2.2.1)))), ((cell_far (p := ⟨gb355, _, none⟩) NB354_355.out _).trans (((cell_far (p := ⟨gb355, _, none⟩) NB354_355.out _).trans (hHeld.2.2.2.2.2.2.2.2.1)))), ((cell_far (p := ⟨gb355, _, none⟩) NB380_355.out _).trans (((cell_far (p := ⟨gb355, _, none⟩) NB380_355.out _).trans (hHeld.2.2.2.2.2.2.2.2.2.1)))), ((cell_far (p := ⟨gb355, _, none⟩) NB380_355.out _).trans (((cell_far (p := ⟨gb355, _, none⟩) NB380_355.out _).trans (hHeld.2.2.2.2.2.2.2.2.2.2.1)))), ((cell_far (p := ⟨gb355, _, none⟩) NB380_355.out _).trans (((cell_far (p := ⟨gb355, _, none⟩) NB380_355.out _).trans (hHeld.2.2.2.2.2.2.2.2.2.2.2.1)))), ((cell_far (p := ⟨gb355, _, none⟩) NB380_355.out _).trans (((cell_far (p := ⟨gb355, _, none⟩) NB380_355.out _).trans (hHeld.2.2.2.2.2.2.2.2.2.2.2.2.1)))), ((cell_far (p := ⟨gb355, _, none⟩) NB380_355.out _).trans (((cell_far (p := ⟨gb355, _, none⟩) NB380_355.out _).trans (hHeld.2.2.2.2.2.2.2.2.2.2.2.2.2.1)))), ((cell_far (p := ⟨gb355, _, none⟩) NB380_355.out _).trans (((cell_far (p := ⟨gb355, _, none⟩) NB380_355.out _).trans (hHeld.2.2.2.2.2.2.2.2.2.2.2.2.2.2))))⟩ (fun hHeld => ?_)
         clear hK K
         refine pu_ 8 7 HT_ ?_
         refine dn_ HT_ ?_
         try go_wp2
         refine bodyPost_ret (results_ct rfl _ _ gb355 26 #[.slice Ao84 t385.length co84, .int .i64 t388] (0, 0) _ rfl (oP BK355) Tryz.underlying26 rfl (by kernel_rfl)) rfl ?_
         exact ⟨_, oE, by (with_reducible repeat (first | apply Kd.S_alloc | apply Kd.S_drewN | apply Kd.S_drew)); exact Kd.S_mono (Kd.S_far (p := ⟨gb355, 1, none⟩) (Kd.S_far (p := ⟨gb355, 0, none⟩) (Kd.S_types HO387.out BK355.out (by decide)) (fun _ hk => hk.2) (.slice Ao84 t385.length co84)) (fun _ hk => hk.2) (.int .i64 t388)) (fun _ hk => trivial), oB⟩
     ·rw [if_neg c34] at H
      have c34b0 : (t379 == 0) = false := beq_eq_false_iff_ne.mpr c34
      have c34b1 : (t379 != 0) = true := bne_iff_ne.mpr c34
      simp only [Option.some.injEq, Prod.mk.injEq] at H
      obtain ⟨rfl, rfl, rfl⟩ := H
      have hnb87 := NB354_355.out
      have hnc87 := NB355_354.out
      obtain ⟨⟨_, _⟩, _, _⟩ := z2 BK354
      go_wp2_with (first | ((with_reducible refine gate_callee (f := 57) rfl ?_); refine gl_ 26 Tryz.func57 (impl_spotOf.calls kj4 _ _ t356 t359 a1 t364 t365 t366 t367 t370 t373 t376 t377 _ (rcS0 HO_355000) (rnS HO_355000) A31.out) ?_; rintro e w89 ⟨v368, v371, v374, rfl, ho0, ho1, ho2, hb⟩; refine ⟨_, rfl, ?_⟩; have HO369 := Aside0.mk (Kd.R_lower ho0 (below_size oB)); have HO372 := Aside0.mk (Kd.R_lower ho1 (below_size oB)); have HO375 := Aside0.mk (Kd.R_lower ho2 (below_size oB)); replace HO_355000 := tdS3 (olS0 HO_355000 hb) (Kd.R_base ho0) (Kd.R_base ho1) (Kd.R_base ho2); replace BK354 := kb_ BK354 hb; replace BK355 := kb_ BK355 hb; replace HB := Aside0.mk (below_step oB hb); (try clear ho1); (try clear ho2)) | ((with_reducible refine gate_dst (N := 8) rfl ?_); (try (refine gate_guard (by rfl) ?_; dsimp only)); refine bx_ 8 #[.int .i64 0, .int .i64 0, .int .i64 0, .slice none 0 0, .slice none 0 0, .slice none 0 0, .string (⟨#[]⟩ : ByteArray)] 84 ?_; intro gb378 hg w90 hbox hb; have BK378 := Aside0.mk (hbox); have GW378 := gs_ hg; have NB354_378 := nl_ hg BK354; have NB378_354 := nr_ hg BK354; have NB355_378 := nl_ hg BK355; have NB378_355 := nr_ hg BK355; replace HO_355000 := beS0 HO_355000 hb; replace HO369 := kr_ HO369 hb; replace HO372 := kr_ HO372 hb; replace HO375 := kr_ HO375 hb; replace BK354 := kb_ BK354 hb; replace BK355 := kb_ BK355 hb; replace HB := Aside0.mk (below_step oB hb); clear hb hbox hg; have hnb91 := NB378_354.out; have hnc91 := NB354_378.out; have hnb92 := NB378_355.out; have hnc92 := NB355_378.out; obtain ⟨⟨_, _, _, _, _, _, _⟩, _, _, _, _, _, _, _⟩ := z7 BK378; obtain ⟨Ao94, co94, eo94⟩ := Kd.R_slice HO369.out; subst eo94; obtain ⟨Ao95, co95, eo95⟩ := Kd.R_slice HO372.out; subst eo95; obtain ⟨Ao96, co96, eo96⟩ := Kd.R_slice HO375.out; subst eo96) | ((with_reducible refine gate_callee (f := 58) rfl ?_); refine gl_ 39 Tryz.func58 (impl_EntOf.calls kj4 t364 t365 t366 _ _ t367 _ _ t370 _ _ t373 t376 t379 _ (rcR1 HO369 BK378) (ko HO369) (rcR1 HO372 BK378) (ko HO372) (rcR1 HO375 BK378) (ko HO375) A33.out) ?_; rintro e w97 ⟨rfl, hb⟩; refine ⟨_, rfl, ?_⟩; replace HO_355000 := beS1 HO_355000 BK378 hb; replace HO369 := beR1 HO369 BK378 hb; replace HO372 := beR1 HO372 BK378 hb; replace HO375 := beR1 HO375 BK378 hb; replace BK354 := kb_ BK354 hb; replace BK355 := kb_ BK355 hb; replace BK378 := kp_ #[.int .i64 t364, .int .i64 t365, .int .i64 t366, .slice Ao94 t367.length co94, .slice Ao95 t370.length co95, .slice Ao96 t373.length co96, .string t376] BK378 hb; replace HB := Aside0.mk (below_step oB hb); (try clear hk); obtain ⟨⟨_, _⟩, _, _⟩ := z2 BK354; obtain ⟨⟨_, _⟩, _, _⟩ := z2 BK355))
      refine bodyPost_ret (results_ct rfl _ _ gb355 26 #[.slice Ao11 t356.length co11, .int .i64 t359] (0, 0) _ rfl (oP BK355) Tryz.underlying26 rfl (by kernel_rfl)) rfl ?_
      exact ⟨_, oE, by (with_reducible repeat (first | apply Kd.S_alloc | apply Kd.S_drewN | apply Kd.S_drew)); exact Kd.S_mono (Kd.S_far (p := ⟨gb355, 1, none⟩) (Kd.S_far (p := ⟨gb355, 0, none⟩) (Kd.S_types HO_355000.out BK355.out (by decide)) (fun _ hk => hk.2) (.slice Ao11 t356.length co11)) (fun _ hk => hk.2) (.int .i64 t359)) (fun _ hk => trivial), oB⟩
    ·rw [if_neg c32] at H
     have c32b0 : (t377 == 0) = false := beq_eq_false_iff_ne.mpr c32
     have c32b1 : (t377 != 0) = true := bne_iff_ne.mpr c32
     simp only [Option.some.injEq, Prod.mk.injEq] at H
     obtain ⟨rfl, rfl, rfl⟩ := H
     have hnb100 := NB354_355.out
     have hnc100 := NB355_354.out
     obtain ⟨⟨_, _⟩, _, _⟩ := z2 BK354
     go_wp2_with (first | ((with_reducible refine gate_callee (f := 57) rfl ?_); refine gl_ 26 Tryz.func57 (impl_spotOf.calls kj4 _ _ t356 t359 a1 t364 t365 t366 t367 t370 t373 t376 t377 _ (rcS0 HO_355000) (rnS HO_355000) A31.out) ?_; rintro e w102 ⟨v368, v371, v374, rfl, ho0, ho1, ho2, hb⟩; refine ⟨_, rfl, ?_⟩; have HO369 := Aside0.mk (Kd.R_lower ho0 (below_size oB)); have HO372 := Aside0.mk (Kd.R_lower ho1 (below_size oB)); have HO375 := Aside0.mk (Kd.R_lower ho2 (below_size oB)); replace HO_355000 := tdS3 (olS0 HO_355000 hb) (Kd.R_base ho0) (Kd.R_base ho1) (Kd.R_base ho2); replace BK354 := kb_ BK354 hb; replace BK355 := kb_ BK355 hb; replace HB := Aside0.mk (below_step oB hb); (try clear ho1); (try clear ho2)) | ((with_reducible refine gate_dst (N := 8) rfl ?_); (try (refine gate_guard (by rfl) ?_; dsimp only)); refine bx_ 8 #[.int .i64 0, .int .i64 0, .int .i64 0, .slice none 0 0, .slice none 0 0, .slice none 0 0, .string (⟨#[]⟩ : ByteArray)] 84 ?_; intro gb378 hg w103 hbox hb; have BK378 := Aside0.mk (hbox); have GW378 := gs_ hg; have NB354_378 := nl_ hg BK354; have NB378_354 := nr_ hg BK354; have NB355_378 := nl_ hg BK355; have NB378_355 := nr_ hg BK355; replace HO_355000 := beS0 HO_355000 hb; replace HO369 := kr_ HO369 hb; replace HO372 := kr_ HO372 hb; replace HO375 := kr_ HO375 hb; replace BK354 := kb_ BK354 hb; replace BK355 := kb_ BK355 hb; replace HB := Aside0.mk (below_step oB hb); clear hb hbox hg; have hnb104 := NB378_354.out; have hnc104 := NB354_378.out; have hnb105 := NB378_355.out; have hnc105 := NB355_378.out; obtain ⟨⟨_, _, _, _, _, _, _⟩, _, _, _, _, _, _, _⟩ := z7 BK378; obtain ⟨Ao107, co107, eo107⟩ := Kd.R_slice HO369.out; subst eo107; obtain ⟨Ao108, co108, eo108⟩ := Kd.R_slice HO372.out; subst eo108; obtain ⟨Ao109, co109, eo109⟩ := Kd.R_slice HO375.out; subst eo109; obtain ⟨⟨_, _⟩, _, _⟩ := z2 BK354; obtain ⟨⟨_, _⟩, _, _⟩ := z2 BK355))
     refine bodyPost_ret (results_ct rfl _ _ gb355 26 #[.slice Ao11 t356.length co11, .int .i64 t359] (0, 0) _ rfl (oP BK355) Tryz.underlying26 rfl (by kernel_rfl)) rfl ?_
     exact ⟨_, oE, by (with_reducible repeat (first | apply Kd.S_alloc | apply Kd.S_drewN | apply Kd.S_drew)); exact Kd.S_mono (Kd.S_far (p := ⟨gb355, 1, none⟩) (Kd.S_far (p := ⟨gb355, 0, none⟩) (Kd.S_far (p := ⟨gb378, 6, none⟩) (Kd.S_far (p := ⟨gb378, 5, none⟩) (Kd.S_far (p := ⟨gb378, 4, none⟩) (Kd.S_far (p := ⟨gb378, 3, none⟩) (Kd.S_far (p := ⟨gb378, 2, none⟩) (Kd.S_far (p := ⟨gb378, 1, none⟩) (Kd.S_far (p := ⟨gb378, 0, none⟩) (Kd.S_types (Kd.S_types HO_355000.out BK378.out (by decide)) BK355.out (by decide)) (fun _ hk => hk.1.2) (.int .i64 t364)) (fun _ hk => hk.1.2) (.int .i64 t365)) (fun _ hk => hk.1.2) (.int .i64 t366)) (fun _ hk => hk.1.2) (.slice Ao107 t367.length co107)) (fun _ hk => hk.1.2) (.slice Ao108 t370.length co108)) (fun _ hk => hk.1.2) (.slice Ao109 t373.length co109)) (fun _ hk => hk.1.2) (.string t376)) (fun _ hk => hk.2) (.slice Ao11 t356.length co11)) (fun _ hk => hk.2) (.int .i64 t359)) (fun _ hk => trivial), oB⟩

/-! ### impl_MakeDir: function 14 -/
def impl_MakeDir.f (k : Nat) (l0_0 : List (S51)) (a0_1 : Int) (a1 : ByteArray) : Option ((List (S51)) × Int × Int) := (impl_makeAt.f k l0_0 a0_1 a1 2).bind fun bt391 => (some (bt391.1, bt391.2.1, bt391.2.2))
set_option maxHeartbeats 8000000 in
set_option maxRecDepth 100000 in
theorem impl_MakeDir.calls (k : Nat) (A0_0 : Option Addr) (c0_0 : Nat) (l0_0 : List (S51)) (a0_1 : Int) (a1 : ByteArray) (r1 : List (S51)) (r2 : Int) (r3 : Int) (w : World) (hr0_0 : Kd.C k51 w A0_0 l0_0.length l0_0) (hc0_0 : l0_0.length ≤ c0_0) (h : impl_MakeDir.f k l0_0 a0_1 a1 = some (r1, r2, r3)) (hG : GOk w := by exact gk_ oB (by first | (with_reducible assumption) | assumption)) :
  Calls Tryz.prog 14 #[.agg #[.slice A0_0 l0_0.length c0_0, .int .i64 a0_1], .string a1] w fun e w' => ∃ v0_ : Value, e = .returned (.tuple #[.agg #[v0_, .int .i64 r2], .int .i64 r3]) ∧ Kd.S k51 51 w' w.heap.size (fun _ => True) v0_ r1 ∧ Below w.heap.size w w' := by
 have HG := Aside0.mk hG
 clear hG
 have hu26 := Tryz.underlying26
 have HR0_0 := Aside0.mk hr0_0
 have HC0_0 := Aside0.mk hc0_0
 clear hr0_0 hc0_0
 have HB := Aside0.mk (Below.refl w.heap.size w)
 unfold impl_MakeDir.f at h
 have H := h
 clear h
 replace H := bA H
 obtain ⟨⟨t391, t394, t395⟩, A3, H⟩ := H
 try dsimp only at H
 simp only [Option.some.injEq, Prod.mk.injEq] at H
 obtain ⟨rfl, rfl, rfl⟩ := H
 go_enter Tryz.func14, Tryz.ntmps14
 go_wp2_with (first | ((with_reducible refine gate_dst (N := 2) rfl ?_); refine bx_ 2 #[.slice A0_0 l0_0.length c0_0, .int .i64 a0_1] 26 ?_; intro gb389 hg w4 hbox hb; have BK389 := Aside0.mk (hbox); have GW389 := gs_ hg; replace HB := Aside0.mk (below_step oB hb); clear hb hbox hg) | ((with_reducible refine gate_dst (N := 4) rfl ?_); refine bx_ 4 #[.slice none 0 0, .int .i64 0] 26 ?_; intro gb390 hg w5 hbox hb; have BK390 := Aside0.mk (hbox); have GW390 := gs_ hg; have NB389_390 := nl_ hg BK389; have NB390_389 := nr_ hg BK389; replace BK389 := kb_ BK389 hb; replace HB := Aside0.mk (below_step oB hb); clear hb hbox hg; have hnb6 := NB389_390.out; have hnc6 := NB390_389.out; obtain ⟨⟨_, _⟩, _, _⟩ := z2 BK389) | ((with_reducible refine gate_callee (f := 35) rfl ?_); refine gl_ 8 Tryz.func35 (impl_makeAt.calls k _ _ l0_0 a0_1 a1 2 t391 t394 t395 _ (kC HR0_0) HC0_0.out A3.out) ?_; rintro e w8 ⟨v392, rfl, ho0, hb⟩; refine ⟨_, rfl, ?_⟩; have HO393 := Aside0.mk (Kd.S_lower ho0 (below_size oB)); replace BK389 := kb_ BK389 hb; replace BK390 := kb_ BK390 hb; replace HB := Aside0.mk (below_step oB hb); obtain ⟨Ao9, co9, eo9⟩ := Kd.S_slice HO393.out; subst eo9; obtain ⟨⟨_, _⟩, _, _⟩ := z2 BK390))
 refine bodyPost_ret (results_ct rfl _ _ gb390 26 #[.slice Ao9 t391.length co9, .int .i64 t394] (0, 0) _ rfl (oP BK390) Tryz.underlying26 rfl (by kernel_rfl)) rfl ?_
 exact ⟨_, oE, by (with_reducible repeat (first | apply Kd.S_alloc | apply Kd.S_drewN | apply Kd.S_drew)); exact Kd.S_mono (Kd.S_far (p := ⟨gb390, 1, none⟩) (Kd.S_far (p := ⟨gb390, 0, none⟩) (Kd.S_types HO393.out BK390.out (by decide)) (fun _ hk => hk.2) (.slice Ao9 t391.length co9)) (fun _ hk => hk.2) (.int .i64 t394)) (fun _ hk => trivial), oB⟩

/-! ### impl_MakeFile: function 15 -/
def impl_MakeFile.f (k : Nat) (l0_0 : List (S51)) (a0_1 : Int) (a1 : ByteArray) : Option ((List (S51)) × Int × Int) := (impl_makeAt.f k l0_0 a0_1 a1 1).bind fun bt398 => (some (bt398.1, bt398.2.1, bt398.2.2))
set_option maxHeartbeats 8000000 in
set_option maxRecDepth 100000 in
theorem impl_MakeFile.calls (k : Nat) (A0_0 : Option Addr) (c0_0 : Nat) (l0_0 : List (S51)) (a0_1 : Int) (a1 : ByteArray) (r1 : List (S51)) (r2 : Int) (r3 : Int) (w : World) (hr0_0 : Kd.C k51 w A0_0 l0_0.length l0_0) (hc0_0 : l0_0.length ≤ c0_0) (h : impl_MakeFile.f k l0_0 a0_1 a1 = some (r1, r2, r3)) (hG : GOk w := by exact gk_ oB (by first | (with_reducible assumption) | assumption)) :
  Calls Tryz.prog 15 #[.agg #[.slice A0_0 l0_0.length c0_0, .int .i64 a0_1], .string a1] w fun e w' => ∃ v0_ : Value, e = .returned (.tuple #[.agg #[v0_, .int .i64 r2], .int .i64 r3]) ∧ Kd.S k51 51 w' w.heap.size (fun _ => True) v0_ r1 ∧ Below w.heap.size w w' := by
 have HG := Aside0.mk hG
 clear hG
 have hu26 := Tryz.underlying26
 have HR0_0 := Aside0.mk hr0_0
 have HC0_0 := Aside0.mk hc0_0
 clear hr0_0 hc0_0
 have HB := Aside0.mk (Below.refl w.heap.size w)
 unfold impl_MakeFile.f at h
 have H := h
 clear h
 replace H := bA H
 obtain ⟨⟨t398, t401, t402⟩, A3, H⟩ := H
 try dsimp only at H
 simp only [Option.some.injEq, Prod.mk.injEq] at H
 obtain ⟨rfl, rfl, rfl⟩ := H
 go_enter Tryz.func15, Tryz.ntmps15
 go_wp2_with (first | ((with_reducible refine gate_dst (N := 2) rfl ?_); refine bx_ 2 #[.slice A0_0 l0_0.length c0_0, .int .i64 a0_1] 26 ?_; intro gb396 hg w4 hbox hb; have BK396 := Aside0.mk (hbox); have GW396 := gs_ hg; replace HB := Aside0.mk (below_step oB hb); clear hb hbox hg) | ((with_reducible refine gate_dst (N := 4) rfl ?_); refine bx_ 4 #[.slice none 0 0, .int .i64 0] 26 ?_; intro gb397 hg w5 hbox hb; have BK397 := Aside0.mk (hbox); have GW397 := gs_ hg; have NB396_397 := nl_ hg BK396; have NB397_396 := nr_ hg BK396; replace BK396 := kb_ BK396 hb; replace HB := Aside0.mk (below_step oB hb); clear hb hbox hg; have hnb6 := NB396_397.out; have hnc6 := NB397_396.out; obtain ⟨⟨_, _⟩, _, _⟩ := z2 BK396) | ((with_reducible refine gate_callee (f := 35) rfl ?_); refine gl_ 8 Tryz.func35 (impl_makeAt.calls k _ _ l0_0 a0_1 a1 1 t398 t401 t402 _ (kC HR0_0) HC0_0.out A3.out) ?_; rintro e w8 ⟨v399, rfl, ho0, hb⟩; refine ⟨_, rfl, ?_⟩; have HO400 := Aside0.mk (Kd.S_lower ho0 (below_size oB)); replace BK396 := kb_ BK396 hb; replace BK397 := kb_ BK397 hb; replace HB := Aside0.mk (below_step oB hb); obtain ⟨Ao9, co9, eo9⟩ := Kd.S_slice HO400.out; subst eo9; obtain ⟨⟨_, _⟩, _, _⟩ := z2 BK397))
 refine bodyPost_ret (results_ct rfl _ _ gb397 26 #[.slice Ao9 t398.length co9, .int .i64 t401] (0, 0) _ rfl (oP BK397) Tryz.underlying26 rfl (by kernel_rfl)) rfl ?_
 exact ⟨_, oE, by (with_reducible repeat (first | apply Kd.S_alloc | apply Kd.S_drewN | apply Kd.S_drew)); exact Kd.S_mono (Kd.S_far (p := ⟨gb397, 1, none⟩) (Kd.S_far (p := ⟨gb397, 0, none⟩) (Kd.S_types HO400.out BK397.out (by decide)) (fun _ hk => hk.2) (.slice Ao9 t398.length co9)) (fun _ hk => hk.2) (.int .i64 t401)) (fun _ hk => trivial), oB⟩

/-! ### impl_fileAt: function 48 -/
def impl_fileAt.f (k : Nat) (l0_0 : List (S51)) (a0_1 : Int) (a1 : ByteArray) : Option (Int × Int × Int × List Int × (List (S65)) × (List (S71)) × Int) := (impl_Stat.f k l0_0 a0_1 a1).bind fun bt405 => (if bt405.2.2.2.2.2.2 = 0 then (if bt405.2.1 = 1 then (some (bt405.1, bt405.2.1, bt405.2.2.1, bt405.2.2.2.1, bt405.2.2.2.2.1, bt405.2.2.2.2.2.1, bt405.2.2.2.2.2.2)) else (some (bt405.1, bt405.2.1, bt405.2.2.1, bt405.2.2.2.1, bt405.2.2.2.2.1, bt405.2.2.2.2.2.1, 3))) else (some (bt405.1, bt405.2.1, bt405.2.2.1, bt405.2.2.2.1, bt405.2.2.2.2.1, bt405.2.2.2.2.2.1, bt405.2.2.2.2.2.2)))
set_option maxHeartbeats 8000000 in
set_option maxRecDepth 100000 in
theorem impl_fileAt.calls (k : Nat) (A0_0 : Option Addr) (c0_0 : Nat) (l0_0 : List (S51)) (a0_1 : Int) (a1 : ByteArray) (r1 : Int) (r2 : Int) (r3 : Int) (r4 : List Int) (r5 : List (S65)) (r6 : List (S71)) (r7 : Int) (w : World) (hr0_0 : Kd.C k51 w A0_0 l0_0.length l0_0) (hc0_0 : l0_0.length ≤ c0_0) (h : impl_fileAt.f k l0_0 a0_1 a1 = some (r1, r2, r3, r4, r5, r6, r7)) (hG : GOk w := by exact gk_ oB (by first | (with_reducible assumption) | assumption)) :
  Calls Tryz.prog 48 #[.agg #[.slice A0_0 l0_0.length c0_0, .int .i64 a0_1], .string a1] w fun e w' => ∃ v3_ v4_ v5_ : Value, e = .returned (.tuple #[.agg #[.int .i64 r1, .int .i64 r2, .int .i64 r3, v3_, v4_, v5_], .int .i64 r7]) ∧ Kd.R (Kd.int .u8) 5 w' w.heap.size (fun _ => True) v3_ r4 ∧ Kd.R k65 65 w' w.heap.size (fun _ => True) v4_ r5 ∧ Kd.R k71 71 w' w.heap.size (fun _ => True) v5_ r6 ∧ Below w.heap.size w w' := by
 have HG := Aside0.mk hG
 clear hG
 have hu26 := Tryz.underlying26
 have hu51 := Tryz.underlying51
 have HR0_0 := Aside0.mk hr0_0
 have HC0_0 := Aside0.mk hc0_0
 clear hr0_0 hc0_0
 have HB := Aside0.mk (Below.refl w.heap.size w)
 unfold impl_fileAt.f at h
 have H := h
 clear h
 replace H := bA H
 obtain ⟨⟨t405, t406, t407, t408, t411, t414, t417⟩, A3, H⟩ := H
 try dsimp only at H
 by_cases c4 : t417 = 0
 ·rw [if_pos c4] at H
  have c4b0 : (t417 == 0) = true := beq_iff_eq.mpr c4
  have c4b1 : (t417 != 0) = false := bne_eq_false_iff_eq.mpr c4
  clear c4
  by_cases c5 : t406 = 1
  ·rw [if_pos c5] at H
   have c5b0 : (t406 == 1) = true := beq_iff_eq.mpr c5
   have c5b1 : (t406 != 1) = false := bne_eq_false_iff_eq.mpr c5
   clear c5
   simp only [Option.some.injEq, Prod.mk.injEq] at H
   obtain ⟨rfl, rfl, rfl, rfl, rfl, rfl, rfl⟩ := H
   go_enter Tryz.func48, Tryz.ntmps48
   go_wp2_with (first | ((with_reducible refine gate_dst (N := 2) rfl ?_); refine bx_ 2 #[.slice A0_0 l0_0.length c0_0, .int .i64 a0_1] 26 ?_; intro gb403 hg w6 hbox hb; have BK403 := Aside0.mk (hbox); have GW403 := gs_ hg; replace HB := Aside0.mk (below_step oB hb); clear hb hbox hg) | ((with_reducible refine gate_dst (N := 4) rfl ?_); refine bx_ 4 #[.int .i64 0, .int .i64 0, .int .i64 0, .slice none 0 0, .slice none 0 0, .slice none 0 0] 51 ?_; intro gb404 hg w7 hbox hb; have BK404 := Aside0.mk (hbox); have GW404 := gs_ hg; have NB403_404 := nl_ hg BK403; have NB404_403 := nr_ hg BK403; replace BK403 := kb_ BK403 hb; replace HB := Aside0.mk (below_step oB hb); clear hb hbox hg; have hnb8 := NB403_404.out; have hnc8 := NB404_403.out; obtain ⟨⟨_, _⟩, _, _⟩ := z2 BK403) | ((with_reducible refine gate_callee (f := 28) rfl ?_); refine gl_ 11 Tryz.func28 (impl_Stat.calls k _ _ l0_0 a0_1 a1 t405 t406 t407 t408 t411 t414 t417 _ (kC HR0_0) HC0_0.out A3.out) ?_; rintro e w10 ⟨v409, v412, v415, rfl, ho0, ho1, ho2, hb⟩; refine ⟨_, rfl, ?_⟩; have HO410 := Aside0.mk (Kd.R_lower ho0 (below_size oB)); have HO413 := Aside0.mk (Kd.R_lower ho1 (below_size oB)); have HO416 := Aside0.mk (Kd.R_lower ho2 (below_size oB)); replace BK403 := kb_ BK403 hb; replace BK404 := kb_ BK404 hb; replace HB := Aside0.mk (below_step oB hb); (try clear ho1); (try clear ho2)) | ((with_reducible refine gate_dst (N := 6) rfl ?_); refine bx_ 6 #[.int .i64 0, .int .i64 0, .int .i64 0, .slice none 0 0, .slice none 0 0, .slice none 0 0] 51 ?_; intro gb418 hg w11 hbox hb; have BK418 := Aside0.mk (hbox); have GW418 := gs_ hg; have NB403_418 := nl_ hg BK403; have NB418_403 := nr_ hg BK403; have NB404_418 := nl_ hg BK404; have NB418_404 := nr_ hg BK404; replace HO410 := kr_ HO410 hb; replace HO413 := kr_ HO413 hb; replace HO416 := kr_ HO416 hb; replace BK403 := kb_ BK403 hb; replace BK404 := kb_ BK404 hb; replace HB := Aside0.mk (below_step oB hb); clear hb hbox hg; have hnb12 := NB418_403.out; have hnc12 := NB403_418.out; have hnb13 := NB418_404.out; have hnc13 := NB404_418.out; obtain ⟨⟨_, _, _, _, _, _⟩, _, _, _, _, _, _⟩ := z6 BK418; obtain ⟨Ao15, co15, eo15⟩ := Kd.R_slice HO410.out; subst eo15; obtain ⟨Ao16, co16, eo16⟩ := Kd.R_slice HO413.out; subst eo16; obtain ⟨Ao17, co17, eo17⟩ := Kd.R_slice HO416.out; subst eo17; obtain ⟨⟨_, _, _, _, _, _⟩, _, _, _, _, _, _⟩ := z6 BK404))
   refine bodyPost_ret (results_ct rfl _ _ gb404 51 #[.int .i64 t405, .int .i64 t406, .int .i64 t407, .slice Ao15 t408.length co15, .slice Ao16 t411.length co16, .slice Ao17 t414.length co17] (0, 0) _ rfl (oP BK404) Tryz.underlying51 rfl (by kernel_rfl)) rfl ?_
   exact ⟨_, _, _, oE, by (with_reducible repeat (first | apply Kd.R_alloc | apply Kd.R_drewN | apply Kd.R_drew)); exact Kd.R_mono (Kd.R_far (p := ⟨gb404, 5, none⟩) (Kd.R_far (p := ⟨gb404, 4, none⟩) (Kd.R_far (p := ⟨gb404, 3, none⟩) (Kd.R_far (p := ⟨gb404, 2, none⟩) (Kd.R_far (p := ⟨gb404, 1, none⟩) (Kd.R_far (p := ⟨gb404, 0, none⟩) (Kd.R_far (p := ⟨gb418, 5, none⟩) (Kd.R_far (p := ⟨gb418, 4, none⟩) (Kd.R_far (p := ⟨gb418, 3, none⟩) (Kd.R_far (p := ⟨gb418, 2, none⟩) (Kd.R_far (p := ⟨gb418, 1, none⟩) (Kd.R_far (p := ⟨gb418, 0, none⟩) (Kd.R_types (Kd.R_types HO410.out BK418.out (by decide)) BK404.out (by decide)) (fun _ hk => hk.1.2) (.int .i64 t405)) (fun _ hk => hk.1.2) (.int .i64 t406)) (fun _ hk => hk.1.2) (.int .i64 t407)) (fun _ hk => hk.1.2) (.slice Ao15 t408.length co15)) (fun _ hk => hk.1.2) (.slice Ao16 t411.length co16)) (fun _ hk => hk.1.2) (.slice Ao17 t414.length co17)) (fun _ hk => hk.2) (.int .i64 t405)) (fun _ hk => hk.2) (.int .i64 t406)) (fun _ hk => hk.2) (.int .i64 t407)) (fun _ hk => hk.2) (.slice Ao15 t408.length co15)) (fun _ hk => hk.2) (.slice Ao16 t411.length co16)) (fun _ hk => hk.2) (.slice Ao17 t414.length co17)) (fun _ hk => trivial), by (with_reducible repeat (first | apply Kd.R_alloc | apply Kd.R_drewN | apply Kd.R_drew)); exact Kd.R_mono (Kd.R_far (p := ⟨gb404, 5, none⟩) (Kd.R_far (p := ⟨gb404, 4, none⟩) (Kd.R_far (p := ⟨gb404, 3, none⟩) (Kd.R_far (p := ⟨gb404, 2, none⟩) (Kd.R_far (p := ⟨gb404, 1, none⟩) (Kd.R_far (p := ⟨gb404, 0, none⟩) (Kd.R_far (p := ⟨gb418, 5, none⟩) (Kd.R_far (p := ⟨gb418, 4, none⟩) (Kd.R_far (p := ⟨gb418, 3, none⟩) (Kd.R_far (p := ⟨gb418, 2, none⟩) (Kd.R_far (p := ⟨gb418, 1, none⟩) (Kd.R_far (p := ⟨gb418, 0, none⟩) (Kd.R_types (Kd.R_types HO413.out BK418.out (by decide)) BK404.out (by decide)) (fun _ hk => hk.1.2) (.int .i64 t405)) (fun _ hk => hk.1.2) (.int .i64 t406)) (fun _ hk => hk.1.2) (.int .i64 t407)) (fun _ hk => hk.1.2) (.slice Ao15 t408.length co15)) (fun _ hk => hk.1.2) (.slice Ao16 t411.length co16)) (fun _ hk => hk.1.2) (.slice Ao17 t414.length co17)) (fun _ hk => hk.2) (.int .i64 t405)) (fun _ hk => hk.2) (.int .i64 t406)) (fun _ hk => hk.2) (.int .i64 t407)) (fun _ hk => hk.2) (.slice Ao15 t408.length co15)) (fun _ hk => hk.2) (.slice Ao16 t411.length co16)) (fun _ hk => hk.2) (.slice Ao17 t414.length co17)) (fun _ hk => trivial), by (with_reducible repeat (first | apply Kd.R_alloc | apply Kd.R_drewN | apply Kd.R_drew)); exact Kd.R_mono (Kd.R_far (p := ⟨gb404, 5, none⟩) (Kd.R_far (p := ⟨gb404, 4, none⟩) (Kd.R_far (p := ⟨gb404, 3, none⟩) (Kd.R_far (p := ⟨gb404, 2, none⟩) (Kd.R_far (p := ⟨gb404, 1, none⟩) (Kd.R_far (p := ⟨gb404, 0, none⟩) (Kd.R_far (p := ⟨gb418, 5, none⟩) (Kd.R_far (p := ⟨gb418, 4, none⟩) (Kd.R_far (p := ⟨gb418, 3, none⟩) (Kd.R_far (p := ⟨gb418, 2, none⟩) (Kd.R_far (p := ⟨gb418, 1, none⟩) (Kd.R_far (p := ⟨gb418, 0, none⟩) (Kd.R_types (Kd.R_types HO416.out BK418.out (by decide)) BK404.out (by decide)) (fun _ hk => hk.1.2) (.int .i64 t405)) (fun _ hk => hk.1.2) (.int .i64 t406)) (fun _ hk => hk.1.2) (.int .i64 t407)) (fun _ hk => hk.1.2) (.slice Ao15 t408.length co15)) (fun _ hk => hk.1.2) (.slice Ao16 t411.length co16)) (fun _ hk => hk.1.2) (.slice Ao17 t414.length co17)) (fun _ hk => hk.2) (.int .i64 t405)) (fun _ hk => hk.2) (.int .i64 t406)) (fun _ hk => hk.2) (.int .i64 t407)) (fun _ hk => hk.2) (.slice Ao15 t408.length co15)) (fun _ hk => hk.2) (.slice Ao16 t411.length co16)) (fun _ hk => hk.2) (.slice Ao17 t414.length co17)) (fun _ hk => trivial), oB⟩
  ·rw [if_neg c5] at H
   have c5b0 : (t406 == 1) = false := beq_eq_false_iff_ne.mpr c5
   have c5b1 : (t406 != 1) = true := bne_iff_ne.mpr c5
   simp only [Option.some.injEq, Prod.mk.injEq] at H
   obtain ⟨rfl, rfl, rfl, rfl, rfl, rfl, rfl⟩ := H
   go_enter Tryz.func48, Tryz.ntmps48
   go_wp2_with (first | ((with_reducible refine gate_dst (N := 2) rfl ?_); refine bx_ 2 #[.slice A0_0 l0_0.length c0_0, .int .i64 a0_1] 26 ?_; intro gb403 hg w19 hbox hb; have BK403 := Aside0.mk (hbox); have GW403 := gs_ hg; replace HB := Aside0.mk (below_step oB hb); clear hb hbox hg) | ((with_reducible refine gate_dst (N := 4) rfl ?_); refine bx_ 4 #[.int .i64 0, .int .i64 0, .int .i64 0, .slice none 0 0, .slice none 0 0, .slice none 0 0] 51 ?_; intro gb404 hg w20 hbox hb; have BK404 := Aside0.mk (hbox); have GW404 := gs_ hg; have NB403_404 := nl_ hg BK403; have NB404_403 := nr_ hg BK403; replace BK403 := kb_ BK403 hb; replace HB := Aside0.mk (below_step oB hb); clear hb hbox hg; have hnb21 := NB403_404.out; have hnc21 := NB404_403.out; obtain ⟨⟨_, _⟩, _, _⟩ := z2 BK403) | ((with_reducible refine gate_callee (f := 28) rfl ?_); refine gl_ 11 Tryz.func28 (impl_Stat.calls k _ _ l0_0 a0_1 a1 t405 t406 t407 t408 t411 t414 t417 _ (kC HR0_0) HC0_0.out A3.out) ?_; rintro e w23 ⟨v409, v412, v415, rfl, ho0, ho1, ho2, hb⟩; refine ⟨_, rfl, ?_⟩; have HO410 := Aside0.mk (Kd.R_lower ho0 (below_size oB)); have HO413 := Aside0.mk (Kd.R_lower ho1 (below_size oB)); have HO416 := Aside0.mk (Kd.R_lower ho2 (below_size oB)); replace BK403 := kb_ BK403 hb; replace BK404 := kb_ BK404 hb; replace HB := Aside0.mk (below_step oB hb); (try clear ho1); (try clear ho2)) | ((with_reducible refine gate_dst (N := 6) rfl ?_); refine bx_ 6 #[.int .i64 0, .int .i64 0, .int .i64 0, .slice none 0 0, .slice none 0 0, .slice none 0 0] 51 ?_; intro gb418 hg w24 hbox hb; have BK418 := Aside0.mk (hbox); have GW418 := gs_ hg; have NB403_418 := nl_ hg BK403; have NB418_403 := nr_ hg BK403; have NB404_418 := nl_ hg BK404; have NB418_404 := nr_ hg BK404; replace HO410 := kr_ HO410 hb; replace HO413 := kr_ HO413 hb; replace HO416 := kr_ HO416 hb; replace BK403 := kb_ BK403 hb; replace BK404 := kb_ BK404 hb; replace HB := Aside0.mk (below_step oB hb); clear hb hbox hg; have hnb25 := NB418_403.out; have hnc25 := NB403_418.out; have hnb26 := NB418_404.out; have hnc26 := NB404_418.out; obtain ⟨⟨_, _, _, _, _, _⟩, _, _, _, _, _, _⟩ := z6 BK418; obtain ⟨Ao28, co28, eo28⟩ := Kd.R_slice HO410.out; subst eo28; obtain ⟨Ao29, co29, eo29⟩ := Kd.R_slice HO413.out; subst eo29; obtain ⟨Ao30, co30, eo30⟩ := Kd.R_slice HO416.out; subst eo30; obtain ⟨⟨_, _, _, _, _, _⟩, _, _, _, _, _, _⟩ := z6 BK404))
   refine bodyPost_ret (results_ct rfl _ _ gb404 51 #[.int .i64 t405, .int .i64 t406, .int .i64 t407, .slice Ao28 t408.length co28, .slice Ao29 t411.length co29, .slice Ao30 t414.length co30] (0, 0) _ rfl (oP BK404) Tryz.underlying51 rfl (by kernel_rfl)) rfl ?_
   exact ⟨_, _, _, oE, by (with_reducible repeat (first | apply Kd.R_alloc | apply Kd.R_drewN | apply Kd.R_drew)); exact Kd.R_mono (Kd.R_far (p := ⟨gb404, 5, none⟩) (Kd.R_far (p := ⟨gb404, 4, none⟩) (Kd.R_far (p := ⟨gb404, 3, none⟩) (Kd.R_far (p := ⟨gb404, 2, none⟩) (Kd.R_far (p := ⟨gb404, 1, none⟩) (Kd.R_far (p := ⟨gb404, 0, none⟩) (Kd.R_far (p := ⟨gb418, 5, none⟩) (Kd.R_far (p := ⟨gb418, 4, none⟩) (Kd.R_far (p := ⟨gb418, 3, none⟩) (Kd.R_far (p := ⟨gb418, 2, none⟩) (Kd.R_far (p := ⟨gb418, 1, none⟩) (Kd.R_far (p := ⟨gb418, 0, none⟩) (Kd.R_types (Kd.R_types HO410.out BK418.out (by decide)) BK404.out (by decide)) (fun _ hk => hk.1.2) (.int .i64 t405)) (fun _ hk => hk.1.2) (.int .i64 t406)) (fun _ hk => hk.1.2) (.int .i64 t407)) (fun _ hk => hk.1.2) (.slice Ao28 t408.length co28)) (fun _ hk => hk.1.2) (.slice Ao29 t411.length co29)) (fun _ hk => hk.1.2) (.slice Ao30 t414.length co30)) (fun _ hk => hk.2) (.int .i64 t405)) (fun _ hk => hk.2) (.int .i64 t406)) (fun _ hk => hk.2) (.int .i64 t407)) (fun _ hk => hk.2) (.slice Ao28 t408.length co28)) (fun _ hk => hk.2) (.slice Ao29 t411.length co29)) (fun _ hk => hk.2) (.slice Ao30 t414.length co30)) (fun _ hk => trivial), by (with_reducible repeat (first | apply Kd.R_alloc | apply Kd.R_drewN | apply Kd.R_drew)); exact Kd.R_mono (Kd.R_far (p := ⟨gb404, 5, none⟩) (Kd.R_far (p := ⟨gb404, 4, none⟩) (Kd.R_far (p := ⟨gb404, 3, none⟩) (Kd.R_far (p := ⟨gb404, 2, none⟩) (Kd.R_far (p := ⟨gb404, 1, none⟩) (Kd.R_far (p := ⟨gb404, 0, none⟩) (Kd.R_far (p := ⟨gb418, 5, none⟩) (Kd.R_far (p := ⟨gb418, 4, none⟩) (Kd.R_far (p := ⟨gb418, 3, none⟩) (Kd.R_far (p := ⟨gb418, 2, none⟩) (Kd.R_far (p := ⟨gb418, 1, none⟩) (Kd.R_far (p := ⟨gb418, 0, none⟩) (Kd.R_types (Kd.R_types HO413.out BK418.out (by decide)) BK404.out (by decide)) (fun _ hk => hk.1.2) (.int .i64 t405)) (fun _ hk => hk.1.2) (.int .i64 t406)) (fun _ hk => hk.1.2) (.int .i64 t407)) (fun _ hk => hk.1.2) (.slice Ao28 t408.length co28)) (fun _ hk => hk.1.2) (.slice Ao29 t411.length co29)) (fun _ hk => hk.1.2) (.slice Ao30 t414.length co30)) (fun _ hk => hk.2) (.int .i64 t405)) (fun _ hk => hk.2) (.int .i64 t406)) (fun _ hk => hk.2) (.int .i64 t407)) (fun _ hk => hk.2) (.slice Ao28 t408.length co28)) (fun _ hk => hk.2) (.slice Ao29 t411.length co29)) (fun _ hk => hk.2) (.slice Ao30 t414.length co30)) (fun _ hk => trivial), by (with_reducible repeat (first | apply Kd.R_alloc | apply Kd.R_drewN | apply Kd.R_drew)); exact Kd.R_mono (Kd.R_far (p := ⟨gb404, 5, none⟩) (Kd.R_far (p := ⟨gb404, 4, none⟩) (Kd.R_far (p := ⟨gb404, 3, none⟩) (Kd.R_far (p := ⟨gb404, 2, none⟩) (Kd.R_far (p := ⟨gb404, 1, none⟩) (Kd.R_far (p := ⟨gb404, 0, none⟩) (Kd.R_far (p := ⟨gb418, 5, none⟩) (Kd.R_far (p := ⟨gb418, 4, none⟩) (Kd.R_far (p := ⟨gb418, 3, none⟩) (Kd.R_far (p := ⟨gb418, 2, none⟩) (Kd.R_far (p := ⟨gb418, 1, none⟩) (Kd.R_far (p := ⟨gb418, 0, none⟩) (Kd.R_types (Kd.R_types HO416.out BK418.out (by decide)) BK404.out (by decide)) (fun _ hk => hk.1.2) (.int .i64 t405)) (fun _ hk => hk.1.2) (.int .i64 t406)) (fun _ hk => hk.1.2) (.int .i64 t407)) (fun _ hk => hk.1.2) (.slice Ao28 t408.length co28)) (fun _ hk => hk.1.2) (.slice Ao29 t411.length co29)) (fun _ hk => hk.1.2) (.slice Ao30 t414.length co30)) (fun _ hk => hk.2) (.int .i64 t405)) (fun _ hk => hk.2) (.int .i64 t406)) (fun _ hk => hk.2) (.int .i64 t407)) (fun _ hk => hk.2) (.slice Ao28 t408.length co28)) (fun _ hk => hk.2) (.slice Ao29 t411.length co29)) (fun _ hk => hk.2) (.slice Ao30 t414.length co30)) (fun _ hk => trivial), oB⟩
 ·rw [if_neg c4] at H
  have c4b0 : (t417 == 0) = false := beq_eq_false_iff_ne.mpr c4
  have c4b1 : (t417 != 0) = true := bne_iff_ne.mpr c4
  simp only [Option.some.injEq, Prod.mk.injEq] at H
  obtain ⟨rfl, rfl, rfl, rfl, rfl, rfl, rfl⟩ := H
  go_enter Tryz.func48, Tryz.ntmps48
  go_wp2_with (first | ((with_reducible refine gate_dst (N := 2) rfl ?_); refine bx_ 2 #[.slice A0_0 l0_0.length c0_0, .int .i64 a0_1] 26 ?_; intro gb403 hg w32 hbox hb; have BK403 := Aside0.mk (hbox); have GW403 := gs_ hg; replace HB := Aside0.mk (below_step oB hb); clear hb hbox hg) | ((with_reducible refine gate_dst (N := 4) rfl ?_); refine bx_ 4 #[.int .i64 0, .int .i64 0, .int .i64 0, .slice none 0 0, .slice none 0 0, .slice none 0 0] 51 ?_; intro gb404 hg w33 hbox hb; have BK404 := Aside0.mk (hbox); have GW404 := gs_ hg; have NB403_404 := nl_ hg BK403; have NB404_403 := nr_ hg BK403; replace BK403 := kb_ BK403 hb; replace HB := Aside0.mk (below_step oB hb); clear hb hbox hg; have hnb34 := NB403_404.out; have hnc34 := NB404_403.out; obtain ⟨⟨_, _⟩, _, _⟩ := z2 BK403) | ((with_reducible refine gate_callee (f := 28) rfl ?_); refine gl_ 11 Tryz.func28 (impl_Stat.calls k _ _ l0_0 a0_1 a1 t405 t406 t407 t408 t411 t414 t417 _ (kC HR0_0) HC0_0.out A3.out) ?_; rintro e w36 ⟨v409, v412, v415, rfl, ho0, ho1, ho2, hb⟩; refine ⟨_, rfl, ?_⟩; have HO410 := Aside0.mk (Kd.R_lower ho0 (below_size oB)); have HO413 := Aside0.mk (Kd.R_lower ho1 (below_size oB)); have HO416 := Aside0.mk (Kd.R_lower ho2 (below_size oB)); replace BK403 := kb_ BK403 hb; replace BK404 := kb_ BK404 hb; replace HB := Aside0.mk (below_step oB hb); (try clear ho1); (try clear ho2)) | ((with_reducible refine gate_dst (N := 6) rfl ?_); refine bx_ 6 #[.int .i64 0, .int .i64 0, .int .i64 0, .slice none 0 0, .slice none 0 0, .slice none 0 0] 51 ?_; intro gb418 hg w37 hbox hb; have BK418 := Aside0.mk (hbox); have GW418 := gs_ hg; have NB403_418 := nl_ hg BK403; have NB418_403 := nr_ hg BK403; have NB404_418 := nl_ hg BK404; have NB418_404 := nr_ hg BK404; replace HO410 := kr_ HO410 hb; replace HO413 := kr_ HO413 hb; replace HO416 := kr_ HO416 hb; replace BK403 := kb_ BK403 hb; replace BK404 := kb_ BK404 hb; replace HB := Aside0.mk (below_step oB hb); clear hb hbox hg; have hnb38 := NB418_403.out; have hnc38 := NB403_418.out; have hnb39 := NB418_404.out; have hnc39 := NB404_418.out; obtain ⟨⟨_, _, _, _, _, _⟩, _, _, _, _, _, _⟩ := z6 BK418; obtain ⟨Ao41, co41, eo41⟩ := Kd.R_slice HO410.out; subst eo41; obtain ⟨Ao42, co42, eo42⟩ := Kd.R_slice HO413.out; subst eo42; obtain ⟨Ao43, co43, eo43⟩ := Kd.R_slice HO416.out; subst eo43; obtain ⟨⟨_, _, _, _, _, _⟩, _, _, _, _, _, _⟩ := z6 BK404))
  refine bodyPost_ret (results_ct rfl _ _ gb404 51 #[.int .i64 t405, .int .i64 t406, .int .i64 t407, .slice Ao41 t408.length co41, .slice Ao42 t411.length co42, .slice Ao43 t414.length co43] (0, 0) _ rfl (oP BK404) Tryz.underlying51 rfl (by kernel_rfl)) rfl ?_
  exact ⟨_, _, _, oE, by (with_reducible repeat (first | apply Kd.R_alloc | apply Kd.R_drewN | apply Kd.R_drew)); exact Kd.R_mono (Kd.R_far (p := ⟨gb404, 5, none⟩) (Kd.R_far (p := ⟨gb404, 4, none⟩) (Kd.R_far (p := ⟨gb404, 3, none⟩) (Kd.R_far (p := ⟨gb404, 2, none⟩) (Kd.R_far (p := ⟨gb404, 1, none⟩) (Kd.R_far (p := ⟨gb404, 0, none⟩) (Kd.R_far (p := ⟨gb418, 5, none⟩) (Kd.R_far (p := ⟨gb418, 4, none⟩) (Kd.R_far (p := ⟨gb418, 3, none⟩) (Kd.R_far (p := ⟨gb418, 2, none⟩) (Kd.R_far (p := ⟨gb418, 1, none⟩) (Kd.R_far (p := ⟨gb418, 0, none⟩) (Kd.R_types (Kd.R_types HO410.out BK418.out (by decide)) BK404.out (by decide)) (fun _ hk => hk.1.2) (.int .i64 t405)) (fun _ hk => hk.1.2) (.int .i64 t406)) (fun _ hk => hk.1.2) (.int .i64 t407)) (fun _ hk => hk.1.2) (.slice Ao41 t408.length co41)) (fun _ hk => hk.1.2) (.slice Ao42 t411.length co42)) (fun _ hk => hk.1.2) (.slice Ao43 t414.length co43)) (fun _ hk => hk.2) (.int .i64 t405)) (fun _ hk => hk.2) (.int .i64 t406)) (fun _ hk => hk.2) (.int .i64 t407)) (fun _ hk => hk.2) (.slice Ao41 t408.length co41)) (fun _ hk => hk.2) (.slice Ao42 t411.length co42)) (fun _ hk => hk.2) (.slice Ao43 t414.length co43)) (fun _ hk => trivial), by (with_reducible repeat (first | apply Kd.R_alloc | apply Kd.R_drewN | apply Kd.R_drew)); exact Kd.R_mono (Kd.R_far (p := ⟨gb404, 5, none⟩) (Kd.R_far (p := ⟨gb404, 4, none⟩) (Kd.R_far (p := ⟨gb404, 3, none⟩) (Kd.R_far (p := ⟨gb404, 2, none⟩) (Kd.R_far (p := ⟨gb404, 1, none⟩) (Kd.R_far (p := ⟨gb404, 0, none⟩) (Kd.R_far (p := ⟨gb418, 5, none⟩) (Kd.R_far (p := ⟨gb418, 4, none⟩) (Kd.R_far (p := ⟨gb418, 3, none⟩) (Kd.R_far (p := ⟨gb418, 2, none⟩) (Kd.R_far (p := ⟨gb418, 1, none⟩) (Kd.R_far (p := ⟨gb418, 0, none⟩) (Kd.R_types (Kd.R_types HO413.out BK418.out (by decide)) BK404.out (by decide)) (fun _ hk => hk.1.2) (.int .i64 t405)) (fun _ hk => hk.1.2) (.int .i64 t406)) (fun _ hk => hk.1.2) (.int .i64 t407)) (fun _ hk => hk.1.2) (.slice Ao41 t408.length co41)) (fun _ hk => hk.1.2) (.slice Ao42 t411.length co42)) (fun _ hk => hk.1.2) (.slice Ao43 t414.length co43)) (fun _ hk => hk.2) (.int .i64 t405)) (fun _ hk => hk.2) (.int .i64 t406)) (fun _ hk => hk.2) (.int .i64 t407)) (fun _ hk => hk.2) (.slice Ao41 t408.length co41)) (fun _ hk => hk.2) (.slice Ao42 t411.length co42)) (fun _ hk => hk.2) (.slice Ao43 t414.length co43)) (fun _ hk => trivial), by (with_reducible repeat (first | apply Kd.R_alloc | apply Kd.R_drewN | apply Kd.R_drew)); exact Kd.R_mono (Kd.R_far (p := ⟨gb404, 5, none⟩) (Kd.R_far (p := ⟨gb404, 4, none⟩) (Kd.R_far (p := ⟨gb404, 3, none⟩) (Kd.R_far (p := ⟨gb404, 2, none⟩) (Kd.R_far (p := ⟨gb404, 1, none⟩) (Kd.R_far (p := ⟨gb404, 0, none⟩) (Kd.R_far (p := ⟨gb418, 5, none⟩) (Kd.R_far (p := ⟨gb418, 4, none⟩) (Kd.R_far (p := ⟨gb418, 3, none⟩) (Kd.R_far (p := ⟨gb418, 2, none⟩) (Kd.R_far (p := ⟨gb418, 1, none⟩) (Kd.R_far (p := ⟨gb418, 0, none⟩) (Kd.R_types (Kd.R_types HO416.out BK418.out (by decide)) BK404.out (by decide)) (fun _ hk => hk.1.2) (.int .i64 t405)) (fun _ hk => hk.1.2) (.int .i64 t406)) (fun _ hk => hk.1.2) (.int .i64 t407)) (fun _ hk => hk.1.2) (.slice Ao41 t408.length co41)) (fun _ hk => hk.1.2) (.slice Ao42 t411.length co42)) (fun _ hk => hk.1.2) (.slice Ao43 t414.length co43)) (fun _ hk => hk.2) (.int .i64 t405)) (fun _ hk => hk.2) (.int .i64 t406)) (fun _ hk => hk.2) (.int .i64 t407)) (fun _ hk => hk.2) (.slice Ao41 t408.length co41)) (fun _ hk => hk.2) (.slice Ao42 t411.length co42)) (fun _ hk => hk.2) (.slice Ao43 t414.length co43)) (fun _ hk => trivial), oB⟩

/-! ### impl_sized: function 49 -/
def impl_sized.f (l0 : List Int) (a1 : Int) : Option (List Int) := if 0 ≤ a1 ∧ a1.toNat ≤ 281474976710656 then some (l0.take (min l0.length a1.toNat) ++ (List.replicate a1.toNat 0).drop (min l0.length a1.toNat)) else none
set_option maxHeartbeats 1000000 in
set_option maxRecDepth 100000 in
theorem impl_sized.calls (A0 : Option Addr) (c0 : Nat) (l0 : List Int) (a1 : Int) (r : List Int) (w : World) (hr0 : Kd.C (Kd.int .u8) w A0 l0.length l0) (hc0 : l0.length ≤ c0) (h : impl_sized.f l0 a1 = some r) :
  Calls Tryz.prog 49 #[.slice A0 l0.length c0, .int .i64 a1] w fun e w' => ∃ v0_ : Value, e = .returned (v0_) ∧ Kd.R (Kd.int .u8) 5 w' w.heap.size (fun _ => True) v0_ r ∧ Below w.heap.size w w' := by
 unfold impl_sized.f at h
 split at h
 case isFalse => cases h
 case isTrue hl =>
 obtain ⟨h0, h1⟩ := hl
 obtain rfl := Option.some.inj h
 have H1 := Aside0.mk h1
 have H0 := Aside0.mk h0
 have HR0 := Aside0.mk hr0
 clear h h1 hr0
 have HB := Aside0.mk (Below.refl w.heap.size w)
 go_enter Tryz.func49, Tryz.ntmps49
 go_wp2_with (first | ((with_reducible refine gate_dst (N := 7) rfl ?_); refine Kd.R_make (Kd.int .u8) _ 5 rfl (N := 7) rfl 22 _ _ rfl a1 rfl rfl Tryz.underlying22 (.int .u8 0) 1 info5 rfl (by decide) (by omega) 0 (ok := fun _ => True) (okp := fun _ => True) rfl (fun _ hk => hk) trivial H0.out (by have := H1.out; omega) (Below.refl _ _) (Nat.le_refl _) ?_; intro v7 w1 ho hb hg_ hnew_; clear hg_ hnew_; have HO := Aside0.mk (Kd.R_lower ho (below_size oB)); replace HB := Aside0.mk (below_step oB hb); clear hb ho) | ((with_reducible refine gate_builtin (b := .copy) rfl ?_); refine Kd.R_copy (enc := fun n => Value.int .u8 n) (h1 := fun _ => rfl) 0 (w0 := w) w.heap.size rfl (.tmp 8) (.tmp 9) 22 22 5 rfl Tryz.underlying22 (by kernel_rfl) v7 _ l0 A0 l0.length c0 (fun _ => True) rfl rfl (oR HO) (kC HR0) oB (below_size oB) ?_; intro w2 ho hb hg; rw [List.length_replicate] at ho; have HO2 := Aside0.mk ho; replace HB := Aside0.mk hb; clear ho hb hg HO))
 go_ret
 exact ⟨_, rfl, oR HO2, oB⟩
/-! ### impl_WriteAt: function 22 -/
theorem take3 {α : Type} (L M : List α) (i n : Nat) (h : i + M.length ≤ n) (hn : n ≤ L.length) : (L.take i ++ M ++ L.drop (i + M.length)).take n = (L.take n).take i ++ M ++ (L.take n).drop (i + M.length) := by
 rw [List.take_append, List.take_of_length_le (by simp only [List.length_append, List.length_take]; omega), List.drop_take, List.take_take, Nat.min_eq_left (by omega : i ≤ n)]
 congr 2
 simp only [List.length_append, List.length_take]
 omega
/-- copy(v[i:], ys), v a row of bytes of one's own that has room for them. -/
theorem wcopy {P : Program} {ops : Array Oper} {rest : List Oper} {o : Oper} {a : Act} {Q : Exit → Act → World → Prop} {w0 W : World} (base : Nat) (hgd : o.guard = none) (s x : Operand) (t t' e : TypeId)
  (ho : o.op = .call { callee := .builtin .copy, args := #[s, x], argTypes := #[t, t'] }) (ht : P.underlying t = some (.slice e)) (hinfo : (P.info? e).map (·.size) = some 1)
  (A : Option Addr) (c i : Nat) (xs ys : List Int) (B : Option Addr) (cB : Nat) (ok : Nat → Prop) (hs : a.eval s = .slice (if c = i then A else Option.map (fun p => p.add i) A) (xs.length - i) (c - i)) (hx : a.eval x = .slice B ys.length cB)
  (HO : (Kd.int .u8).R e W base ok (.slice A xs.length c) xs) (HR : (Kd.int .u8).C W B ys.length ys) (hle : i + ys.length ≤ xs.length) (HB : Below base w0 W) (hbase : base ≤ W.heap.size)
  (h : ∀ w1, (Kd.int .u8).R e w1 base ok (.slice A xs.length c) (xs.take i ++ ys ++ xs.drop (i + ys.length)) → Below base w0 w1 → W.grownBy w1 (Value.slice A xs.length c).ownBlock → wpList P ops Q rest (a.put o.dst (.int .i64 ((ys.length : Nat) : Int))) w1) :
  wpList P ops Q (o :: rest) a W := by
 have hR := Kd.reads_of_C (enc := fun n => Value.int .u8 n) (d := (0 : Int)) (h1 := fun _ => rfl) HR
 have hown := Kd.own_of_R HO
 have fin : ∀ w1, (Builtin.copy_ #[t, t'] o.type #[.slice (if c = i then A else Option.map (fun p => p.add i) A) (xs.length - i) (c - i), .slice B ys.length cB]).run P W = .ok (goInt ((ys.length : Nat) : Int)) w1 → (Kd.int .u8).R e w1 base ok (.slice A xs.length c) (xs.take i ++ ys ++ xs.drop (i + ys.length)) → W.grownBy w1 (Value.slice A xs.length c).ownBlock → wpList P ops Q (o :: rest) a W := by
  intro w1 hr hrow hg
  refine wpList_plain hgd fun K hK => ?_
  unfold Oper.wp execOp
  simp only [ho, resolve, invoke, builtin, Sem.run_bind, Sem.run_pure, Result.andThen_ok, List.map_toArray, List.map_cons, List.map_nil, hs, hx, hr]
  exact hK _ _ (h w1 hrow (HB.grown hg hbase (own_base hown)) hg)
 rcases Nat.eq_zero_or_pos ys.length with h0 | hp
 ·obtain rfl := List.eq_nil_of_length_eq_zero h0
  refine fin W ?_ (by simpa using HO) (World.grownBy.refl W _)
  have := run_copy_none (P := P) W t t' o.type e (if c = i then A else Option.map (fun p => p.add i) A) B (xs.length - i) (c - i) 0 cB ht hinfo (Nat.zero_min _)
  simpa using this
 ·obtain ⟨ad, hA, hc⟩ := hR.2.2 hp
  rcases hown.2 with ⟨_, hx0⟩ | ⟨g, cap, cur, hv, hb, hh, hnc, hcm, hcs, htake⟩
  ·omega
  injection hv with hA2 _ hcc
  subst hA2; subst hcc
  have hci : ¬ c = i := by omega
  have hcs1 : cur.size = c := by omega
  have hl : (ys.map fun n => Value.int .u8 n).length = ys.length := List.length_map ..
  have hsrc : ∀ j u, (ys.map fun n => Value.int .u8 n)[j]? = some u → W.cell? (ad.add j) = some u := by
   intro j u hu
   rw [List.getElem?_map] at hu
   obtain ⟨y, hy, rfl⟩ := Option.map_eq_some_iff.1 hu
   have hj := (List.getElem?_eq_some_iff.1 hy).1
   rw [hc j hj]
   simp [List.getD_eq_getElem?_getD, hy]
  have hr := run_copy_cells (P := P) W t t' o.type e g i (xs.length - i) (c - i) ad ys.length cB (ys.map fun n => Value.int .u8 n) ht hinfo (by rw [hl]; exact (Nat.min_eq_left (by omega : ys.length ≤ xs.length - i)).symm) hsrc
   (fun j hj => by rw [cell_of_row W g _ cur e (0, 0) hh]; simp; omega) (fun j _ => blk_frozen hh _) (by intro u hu; simp only [List.mem_map] at hu; obtain ⟨q, _, rfl⟩ := hu; rfl)
  obtain ⟨cur', h3, h4, h5⟩ := setCells_row (ys.map fun n => Value.int .u8 n) i W cur hh (by rw [hl]; omega)
  obtain ⟨s1, s2, s3, s4⟩ := setCells_same g (ys.map fun n => Value.int .u8 n) i W
  refine fin _ (by rw [hA, if_neg hci]; rw [hl] at hr; rw [show Option.map (fun p => Addr.add p i) (some (⟨g, 0, none⟩ : Addr)) = some ⟨g, i, none⟩ from by simp [Addr.add]; omega]; exact hr) (Kd.R_of_own (enc := fun n => Value.int .u8 n) (h1 := fun _ => rfl) ?_ HO.1) ⟨s1, s2, s3, by rw [s4]; exact Nat.le_refl _, fun k _ hk => setCells_far _ _ k (fun he => hk (by rw [he]; simp [Value.ownBlock]))⟩
  have hln : (xs.take i ++ ys ++ xs.drop (i + ys.length)).length = xs.length := by
   simp only [List.length_append, List.length_take, List.length_drop]
   omega
  rw [hln]
  refine ⟨by simp only [encs, List.length_map, hln, Nat.mul_one], .inr ⟨g, c, cur', rfl, hb, h3, hnc, hcm, by rw [h4, hcs], ?_⟩⟩
  have htk : cur.toList.take xs.length = xs.map fun n => Value.int .u8 n := by have := htake; simpa [encs] using this
  rw [h5, hl, Nat.mul_one]
  simp only [encs, List.map_append, List.map_take, List.map_drop, ← htk]
  have hm : (ys.map fun n => Value.int .u8 n).length = ys.length := List.length_map ..
  have := take3 cur.toList (ys.map fun n => Value.int .u8 n) i xs.length (by rw [hm]; exact hle) (by have e_ : cur.toList.length = cur.size := Array.length_toList; omega)
  rw [hm] at this
  exact this
theorem frmW_ (a b c : Int) : impl_from.f a b c = some (decide (b ≤ a ∧ a ≤ c)) := by
 unfold impl_from.f
 by_cases h : a ≥ b
 ·rw [if_pos h]; simp; omega
 ·rw [if_neg h]; simp; omega
def impl_WriteAt.f (k : Nat) (l0_0 : List S51) (a0_1 : Int) (a1 : ByteArray) (a2 : Int) (ld : List Int) : Option (List S51 × Int × Int) :=
 (impl_copyTab.f k l0_0 a0_1).bind fun t => (impl_ready.f k t.1 t.2 [a1]).bind fun b => if b = true ∧ decide (0 ≤ a2 ∧ a2 ≤ 100) = true then ((impl_fileAt.f k t.1 t.2 a1).bind fun x => if x.2.2.2.2.2.2 = 0 then (if ld.length ≤ 4611686018427387904 then (if a2 + (ld.length : Int) > 100 then some (t.1, t.2, 5) else ((impl_sized.f x.2.2.2.1 (max (x.2.2.2.1.length : Int) (a2 + (ld.length : Int)))).bind fun d => (impl_SetInode.f k t.1 t.2 x.1 x.2.1 x.2.2.1 (d.take a2.toNat ++ ld ++ d.drop (a2.toNat + ld.length)) x.2.2.2.2.1 x.2.2.2.2.2.1).bind fun s => some (s.1, s.2, 0))) else none) else some (t.1, t.2, x.2.2.2.2.2.2)) else some (t.1, t.2, 1)
set_option maxHeartbeats 4000000 in
set_option maxRecDepth 100000 in
theorem impl_WriteAt.calls (k : Nat) (A0_0 : Option Addr) (c0_0 : Nat) (l0_0 : List S51) (a0_1 : Int) (a1 : ByteArray) (a2 : Int) (AD : Option Addr) (cD : Nat) (ld : List Int) (r1 : List S51) (r2 r3 : Int) (w : World) (hr0_0 : Kd.C k51 w A0_0 l0_0.length l0_0) (hc0_0 : l0_0.length ≤ c0_0) (hrD : Kd.C (Kd.int .u8) w AD ld.length ld) (hcD : ld.length ≤ cD) (h : impl_WriteAt.f k l0_0 a0_1 a1 a2 ld = some (r1, r2, r3)) (hG : GOk w := by exact gk_ oB (by first | (with_reducible assumption) | assumption)) :
  Calls Tryz.prog 22 #[.agg #[.slice A0_0 l0_0.length c0_0, .int .i64 a0_1], .string a1, .int .i64 a2, .slice AD ld.length cD] w fun e w' => ∃ v0_ : Value, e = .returned (.tuple #[.agg #[v0_, .int .i64 r2], .int .i64 r3]) ∧ Kd.S k51 51 w' w.heap.size (fun _ => True) v0_ r1 ∧ Below w.heap.size w w' := by
 have HG := Aside0.mk hG
 have HR0 := Aside0.mk hr0_0
 have HC0 := Aside0.mk hc0_0
 have HRD := Aside0.mk hrD
 have HCD := Aside0.mk hcD
 clear hrD hcD
 clear hG hr0_0 hc0_0
 unfold impl_WriteAt.f at h
 replace h := bA h
 obtain ⟨⟨t1, t2⟩, H1, h⟩ := h
 dsimp only at h
 replace h := bA h
 obtain ⟨b, H2, h⟩ := h
 have H := Aside0.mk h
 have HF := Aside0.mk (frmW_ a2 0 100)
 clear h
 have HB := Aside0.mk (Below.refl w.heap.size w)
 go_enter Tryz.func22, Tryz.ntmps22
 go_upto_region 2 with (first | ((with_reducible refine gate_dst (N := 4) rfl ?_); refine bx_ 4 #[.slice A0_0 l0_0.length c0_0, .int .i64 a0_1] 26 ?_; intro gb3 hg w1 hbox hb; have BK3 := Aside0.mk hbox; have GW3 := gs_ hg; replace HB := Aside0.mk (below_step oB hb); clear hb hbox hg) | ((with_reducible refine gate_dst (N := 8) rfl ?_); refine bx_ 8 #[.slice none 0 0, .int .i64 0] 26 ?_; intro gb6 hg w2 hbox hb; have BK6 := Aside0.mk hbox; have GW6 := gs_ hg; have NB36 := nl_ hg BK3; have NB63 := nr_ hg BK3; replace BK3 := kb_ BK3 hb; replace HB := Aside0.mk (below_step oB hb); clear hb hbox hg; obtain ⟨⟨_, _⟩, _, _⟩ := z2 BK3) | ((with_reducible refine gate_callee (f := 45) rfl ?_); refine gl_ 13 Tryz.func45 (impl_copyTab.calls k _ _ l0_0 a0_1 t1 t2 _ (kC HR0) HC0.out H1.out) ?_; rintro e w3 ⟨v0, rfl, hs, hb⟩; refine ⟨_, rfl, ?_⟩; obtain ⟨At, ct, rfl⟩ := Kd.S_slice hs; have HS := siv' hs _ w.heap.size (Nat.le_refl _) (below_size oB); have l3 := Aside0.mk (blk_lt (oF BK3)); have l6 := Aside0.mk (blk_lt (oF BK6)); replace BK3 := kb_ BK3 hb; replace BK6 := kb_ BK6 hb; replace HB := Aside0.mk (below_step oB hb); clear hs hb; obtain ⟨⟨_, _⟩, _, _⟩ := z2 BK3))
 have n3_ : Aside0 (((w3.setCell ⟨gb3, 0, none⟩ (.slice At t1.length ct)).setCell ⟨gb3, 1, none⟩ (.int .i64 t2)).heap[gb3]? = some (.cells #[.slice At t1.length ct, .int .i64 t2] 26 (0, 0))) := ⟨oP BK3⟩
 have n4_ := Aside0.mk (Kd.S_mono (ok' := fun k_ => k_ ≠ gb3 ∧ k_ ≠ gb6) (Kd.S_far (p := ⟨gb3, 1, none⟩) (Kd.S_far (p := ⟨gb3, 0, none⟩) HS.out (fun k_ hk => by have := hk.1; have := l3.out; dsimp only; omega) (.slice At t1.length ct)) (fun k_ hk => by have := hk.1; have := l3.out; dsimp only; omega) (.int .i64 t2)) (fun k_ hk => by have := hk.1; have := l3.out; have := l6.out; exact ⟨by omega, by omega⟩))
 generalize hW_ : (w3.setCell ⟨gb3, 0, none⟩ (.slice At t1.length ct)).setCell ⟨gb3, 1, none⟩ (.int .i64 t2) = w4 at n3_ n4_ ⊢
 replace BK6 := kw_ hW_ BK6
 replace HB := hw_ hW_ HB
 clear BK3 HS hW_ l3 l6
 have BK3 := n3_
 have HS := n4_
 clear n3_ n4_
 obtain ⟨⟨_, _⟩, _, _⟩ := z2 BK3
 rcases (by cases b <;> cases (decide (0 ≤ a2 ∧ a2 ≤ 100)) <;> simp : b = false ∨ (b = true ∧ decide (0 ≤ a2 ∧ a2 ≤ 100) = false) ∨ (b = true ∧ decide (0 ≤ a2 ∧ a2 ≤ 100) = true)) with rfl | ⟨rfl, hd⟩ | ⟨rfl, hd⟩
 ·have h := H.out
  rw [if_neg (by simp)] at h
  simp only [Option.some.injEq, Prod.mk.injEq] at h
  obtain ⟨rfl, rfl, rfl⟩ := h
  clear H
  go_wp2_with (first | ((with_reducible refine gate_dst (N := 16) rfl ?_); refine Kd.R_lit Kd.string _ 9 ?hg (N := 16) ?hd (xs := ([a1] : List ByteArray)) (inner := [.string a1]) (ok := fun _ => True) (okp := fun _ => True) ?hr ?hp (fun _ hk => hk) trivial (Below.refl _ _) (Nat.le_refl _) (by simp) ?_; (case hd => rfl); (case hg => rfl); (case hr => first | (go_simp; done) | (go_simp; rfl)); (case hp => exact (Reps.one (show Kd.M Kd.string _ _ _ a1 [.string a1] from rfl) (Reps.none _ _))); intro v14 w5 ho hb hg_ hnew_; clear hg_ hnew_; obtain ⟨Aa, ca, rfl⟩ := Kd.R_slice ho; have HO14 := Aside0.mk ho; replace HS := Aside0.mk (Kd.S_below HS.out hb); replace BK3 := kb_ BK3 hb; replace BK6 := kb_ BK6 hb; replace HB := Aside0.mk (below_step oB hb); clear hb ho) | ((with_reducible refine gate_callee (f := 46) rfl ?_); refine gl_ 17 Tryz.func46 (impl_ready.calls k _ _ t1 t2 _ _ [a1] false _ (rS HS) (rl HS) (kO HO14) (ko HO14) H2.out) ?_; rintro e w6 ⟨rfl, hb⟩; refine ⟨_, rfl, ?_⟩; replace HS := Aside0.mk (Kd.S_below HS.out hb); replace BK3 := kb_ BK3 hb; replace BK6 := kb_ BK6 hb; replace HB := Aside0.mk (below_step oB hb); clear hb HO14; obtain ⟨⟨_, _⟩, _, _⟩ := z2 BK3; obtain ⟨⟨_, _⟩, _, _⟩ := z2 BK6))
  try simp only [Exit.inBlock, Exit.then]
  refine bodyPost_ret (results_ct rfl _ _ gb6 26 #[.slice At t1.length ct, .int .i64 t2] (0, 0) _ rfl (oP BK6) Tryz.underlying26 rfl (by kernel_rfl)) rfl ?_
  exact ⟨_, rfl, Kd.S_mono (ok := fun k_ => k_ ≠ gb3 ∧ k_ ≠ gb6) (by repeat (first | exact HS.out | refine Kd.S_far ?_ (fun _ hk => hk.2) _ | apply Kd.S_alloc | apply Kd.S_drewN | apply Kd.S_drew)) (fun _ _ => trivial), oB⟩
 ·have h := H.out
  rw [if_neg (by simp [hd])] at h
  simp only [Option.some.injEq, Prod.mk.injEq] at h
  obtain ⟨rfl, rfl, rfl⟩ := h
  have HD := Aside0.mk hd
  clear H hd
  go_wp2_with (first | ((with_reducible refine gate_dst (N := 16) rfl ?_); refine Kd.R_lit Kd.string _ 9 ?hg (N := 16) ?hd (xs := ([a1] : List ByteArray)) (inner := [.string a1]) (ok := fun _ => True) (okp := fun _ => True) ?hr ?hp (fun _ hk => hk) trivial (Below.refl _ _) (Nat.le_refl _) (by simp) ?_; (case hd => rfl); (case hg => rfl); (case hr => first | (go_simp; done) | (go_simp; rfl)); (case hp => exact (Reps.one (show Kd.M Kd.string _ _ _ a1 [.string a1] from rfl) (Reps.none _ _))); intro v14 w5 ho hb hg_ hnew_; clear hg_ hnew_; obtain ⟨Aa, ca, rfl⟩ := Kd.R_slice ho; have HO14 := Aside0.mk ho; replace HS := Aside0.mk (Kd.S_below HS.out hb); replace BK3 := kb_ BK3 hb; replace BK6 := kb_ BK6 hb; replace HB := Aside0.mk (below_step oB hb); clear hb ho) | ((with_reducible refine gate_callee (f := 46) rfl ?_); refine gl_ 17 Tryz.func46 (impl_ready.calls k _ _ t1 t2 _ _ [a1] true _ (rS HS) (rl HS) (kO HO14) (ko HO14) H2.out) ?_; rintro e w6 ⟨rfl, hb⟩; refine ⟨_, rfl, ?_⟩; replace HS := Aside0.mk (Kd.S_below HS.out hb); replace BK3 := kb_ BK3 hb; replace BK6 := kb_ BK6 hb; replace HB := Aside0.mk (below_step oB hb); clear hb HO14; obtain ⟨⟨_, _⟩, _, _⟩ := z2 BK3; obtain ⟨⟨_, _⟩, _, _⟩ := z2 BK6) | (go_at_call 47; refine (impl_from.calls a2 0 100 _ _ HF.out).mono ?_; rintro e w' ⟨rfl, ⟨nd, rfl⟩⟩; rw [HD.out]))
  try simp only [Exit.inBlock, Exit.then]
  refine bodyPost_ret (results_ct rfl _ _ gb6 26 #[.slice At t1.length ct, .int .i64 t2] (0, 0) _ rfl (oP BK6) Tryz.underlying26 rfl (by kernel_rfl)) rfl ?_
  exact ⟨_, rfl, Kd.S_mono (ok := fun k_ => k_ ≠ gb3 ∧ k_ ≠ gb6) (by repeat (first | exact HS.out | refine Kd.S_far ?_ (fun _ hk => hk.2) _ | apply Kd.S_alloc | apply Kd.S_drewN | apply Kd.S_drew)) (fun _ _ => trivial), oB⟩
 ·have h := H.out
  rw [if_pos ⟨rfl, hd⟩] at h
  have HD := Aside0.mk hd
  clear hd H
  replace h := bA h
  obtain ⟨⟨x1, x2, x3, x4, x5, x6, x7⟩, H3, h⟩ := h
  dsimp only at h
  have HH := Aside0.mk h
  clear h
  go_upto_if 32 with (first | ((with_reducible refine gate_dst (N := 16) rfl ?_); refine Kd.R_lit Kd.string _ 9 ?hg (N := 16) ?hd (xs := ([a1] : List ByteArray)) (inner := [.string a1]) (ok := fun _ => True) (okp := fun _ => True) ?hr ?hp (fun _ hk => hk) trivial (Below.refl _ _) (Nat.le_refl _) (by simp) ?_; (case hd => rfl); (case hg => rfl); (case hr => first | (go_simp; done) | (go_simp; rfl)); (case hp => exact (Reps.one (show Kd.M Kd.string _ _ _ a1 [.string a1] from rfl) (Reps.none _ _))); intro v14 w5 ho hb hg_ hnew_; clear hg_ hnew_; obtain ⟨Aa, ca, rfl⟩ := Kd.R_slice ho; have HO14 := Aside0.mk ho; replace HS := Aside0.mk (Kd.S_below HS.out hb); replace BK3 := kb_ BK3 hb; replace BK6 := kb_ BK6 hb; replace HB := Aside0.mk (below_step oB hb); clear hb ho) | ((with_reducible refine gate_callee (f := 46) rfl ?_); refine gl_ 17 Tryz.func46 (impl_ready.calls k _ _ t1 t2 _ _ [a1] true _ (rS HS) (rl HS) (kO HO14) (ko HO14) H2.out) ?_; rintro e w6 ⟨rfl, hb⟩; refine ⟨_, rfl, ?_⟩; replace HS := Aside0.mk (Kd.S_below HS.out hb); replace BK3 := kb_ BK3 hb; replace BK6 := kb_ BK6 hb; replace HB := Aside0.mk (below_step oB hb); clear hb HO14; obtain ⟨⟨_, _⟩, _, _⟩ := z2 BK3; obtain ⟨⟨_, _⟩, _, _⟩ := z2 BK6) | (go_at_call 47; refine (impl_from.calls a2 0 100 _ _ HF.out).mono ?_; rintro e w' ⟨rfl, ⟨nd, rfl⟩⟩; rw [HD.out]) | ((with_reducible refine gate_callee (f := 48) rfl ?_); refine gl_ 28 Tryz.func48 (impl_fileAt.calls k _ _ t1 t2 a1 x1 x2 x3 x4 x5 x6 x7 _ (rS HS) (rl HS) H3.out) ?_; rintro e w7 ⟨v3, v4, v5, rfl, ho3, ho4, ho5, hb⟩; refine ⟨_, rfl, ?_⟩; have HO3 := Aside0.mk (Kd.R_lower (Kd.R_newB (Kd.R_newB ho3 (oF BK3)) (oF BK6)) (below_size oB)); have HO4 := Aside0.mk (Kd.R_lower (Kd.R_newB (Kd.R_newB ho4 (oF BK3)) (oF BK6)) (below_size oB)); have HO5 := Aside0.mk (Kd.R_lower (Kd.R_newB (Kd.R_newB ho5 (oF BK3)) (oF BK6)) (below_size oB)); replace HS := beS0 HS hb; replace BK3 := kb_ BK3 hb; replace BK6 := kb_ BK6 hb; replace HB := Aside0.mk (below_step oB hb); clear hb ho3 ho4 ho5) | ((with_reducible refine gate_dst (N := 10) rfl ?_); refine bx_ 10 #[.int .i64 0, .int .i64 0, .int .i64 0, .slice none 0 0, .slice none 0 0, .slice none 0 0] 51 ?_; intro gb8 hg w8 hbox hb; have BK8 := Aside0.mk hbox; have GW8 := gs_ hg; have NB38 := nl_ hg BK3; have NB83 := nr_ hg BK3; have NB68 := nl_ hg BK6; have NB86 := nr_ hg BK6; replace HS := Aside0.mk (Kd.S_mono (ok' := fun k_ => k_ ≠ gb3 ∧ k_ ≠ gb6 ∧ k_ ≠ gb8) (Kd.S_below (Kd.S_bound HS.out) hb) (fun k_ hk => ⟨hk.1.1, hk.1.2, by rw [hg]; have := hk.2.2.1; omega⟩)); replace HO3 := kr_ HO3 hb; replace HO4 := kr_ HO4 hb; replace HO5 := kr_ HO5 hb; replace BK3 := kb_ BK3 hb; replace BK6 := kb_ BK6 hb; replace HB := Aside0.mk (below_step oB hb); clear hb hbox hg; obtain ⟨A3, c3, rfl⟩ := Kd.R_slice HO3.out; obtain ⟨A4, c4, rfl⟩ := Kd.R_slice HO4.out; obtain ⟨A5, c5, rfl⟩ := Kd.R_slice HO5.out; obtain ⟨⟨_, _, _, _, _, _⟩, _, _, _, _, _, _⟩ := z6 BK8))
  (try simp only [Act.put, List.setIfInBounds_toArray, List.set_cons_zero, List.set_cons_succ])
  obtain ⟨p1, p2, _⟩ := put6 BK8.out (.int .i64 x1) (.int .i64 x2) (.int .i64 x3) (.slice A3 x4.length c3) (.slice A4 x5.length c4) (.slice A5 x6.length c5)
  generalize hW_ : ((((((w8.setCell ⟨gb8, 0, none⟩ (.int .i64 x1)).setCell ⟨gb8, 1, none⟩ (.int .i64 x2)).setCell ⟨gb8, 2, none⟩ (.int .i64 x3)).setCell ⟨gb8, 3, none⟩ (.slice A3 x4.length c3)).setCell ⟨gb8, 4, none⟩ (.slice A4 x5.length c4)).setCell ⟨gb8, 5, none⟩ (.slice A5 x6.length c5)) = w9 at p1 p2 ⊢
  replace HO3 := Aside0.mk (Kd.R_step (Kd.R_types HO3.out BK8.out (by decide)) (fun k_ hk _ => p2 k_ hk.2))
  replace HO4 := Aside0.mk (Kd.R_step (Kd.R_types HO4.out BK8.out (by decide)) (fun k_ hk _ => p2 k_ hk.2))
  replace HO5 := Aside0.mk (Kd.R_step (Kd.R_types HO5.out BK8.out (by decide)) (fun k_ hk _ => p2 k_ hk.2))
  replace HS := Aside0.mk (Kd.S_step HS.out (fun k_ hk _ => p2 k_ hk.2.2))
  replace BK3 := kw_ hW_ BK3
  replace BK6 := kw_ hW_ BK6
  replace HB := hw_ hW_ HB
  replace BK8 := Aside0.mk p1
  clear p1 p2 hW_
  obtain ⟨⟨_, _⟩, _, _⟩ := z2 BK3
  obtain ⟨⟨_, _⟩, _, _⟩ := z2 BK6
  obtain ⟨⟨_, _, _, _, _, _⟩, _, _, _, _, _, _⟩ := z6 BK8
  by_cases c7 : x7 = 0
  case neg =>
   have h := HH.out
   rw [if_neg c7] at h
   simp only [Option.some.injEq, Prod.mk.injEq] at h
   obtain ⟨rfl, rfl, rfl⟩ := h
   have c7b : (x7 != 0) = true := by simpa using c7
   rw [c7b]
   clear HH
   go_wp2
   try simp only [Exit.inBlock, Exit.then]
   refine bodyPost_ret (results_ct rfl _ _ gb6 26 #[.slice At t1.length ct, .int .i64 t2] (0, 0) _ rfl (oP BK6) Tryz.underlying26 rfl (by kernel_rfl)) rfl ?_
   exact ⟨_, rfl, Kd.S_mono (ok := fun k_ => k_ ≠ gb3 ∧ k_ ≠ gb6 ∧ k_ ≠ gb8) (by repeat (first | exact HS.out | refine Kd.S_far ?_ (fun _ hk => hk.2.1) _ | apply Kd.S_alloc | apply Kd.S_drewN | apply Kd.S_drew)) (fun _ _ => trivial), oB⟩
  case pos =>
   have c7b : (x7 != 0) = false := by simpa using c7
   rw [c7b]
   have h := HH.out
   rw [if_pos c7] at h
   split at h
   case isFalse => cases h
   case isTrue hll =>
   have HLL := Aside0.mk hll
   clear HH
   have hd2 := of_decide_eq_true HD.out
   have hw : wrap64 (a2 + (ld.length : Int)) = a2 + (ld.length : Int) := by unfold wrap64; omega
   split at h
   case isTrue hf =>
    simp only [Option.some.injEq, Prod.mk.injEq] at h
    obtain ⟨rfl, rfl, rfl⟩ := h
    have hfb : decide ((100 : Int) < a2 + (ld.length : Int)) = true := decide_eq_true (by omega)
    clear hf hd2
    go_upto_if 39 with (fail)
    (try rw [hw])
    (try rw [hfb])
    go_wp2
    try simp only [Exit.inBlock, Exit.then]
    refine bodyPost_ret (results_ct rfl _ _ gb6 26 #[.slice At t1.length ct, .int .i64 t2] (0, 0) _ rfl (oP BK6) Tryz.underlying26 rfl (by kernel_rfl)) rfl ?_
    exact ⟨_, rfl, Kd.S_mono (ok := fun k_ => k_ ≠ gb3 ∧ k_ ≠ gb6 ∧ k_ ≠ gb8) (by repeat (first | exact HS.out | refine Kd.S_far ?_ (fun _ hk => hk.2.1) _ | apply Kd.S_alloc | apply Kd.S_drewN | apply Kd.S_drew)) (fun _ _ => trivial), oB⟩
   case isFalse hf =>
   have hfb : decide ((100 : Int) < a2 + (ld.length : Int)) = false := decide_eq_false (by omega)
   replace h := bA h
   obtain ⟨d, H4, h⟩ := h
   replace h := bA h
   obtain ⟨⟨s1, s2⟩, H5, h⟩ := h
   dsimp only at h H4 H5
   simp only [Option.some.injEq, Prod.mk.injEq] at h
   obtain ⟨rfl, rfl, rfl⟩ := h
   obtain ⟨Y, hY⟩ : ∃ Y_ : List Int, Y_ = d.take a2.toNat ++ ld ++ d.drop (a2.toNat + ld.length) := ⟨_, rfl⟩
   rw [← hY] at H5
   have HY := Aside0.mk hY
   obtain ⟨ji, hji⟩ : ∃ j_ : Int, (if (x4.length : Int) < a2 + (ld.length : Int) then a2 + (ld.length : Int) else (x4.length : Int)) = j_ := ⟨_, rfl⟩
   have hjm : max (x4.length : Int) (a2 + (ld.length : Int)) = ji := by rw [← hji]; split <;> omega
   rw [hjm] at H4
   have hdl : d.length = ji.toNat := by
    have h4 := H4.out
    unfold impl_sized.f at h4
    split at h4
    case isFalse => cases h4
    case isTrue hq =>
     obtain rfl := Option.some.inj h4
     simp only [List.length_append, List.length_take, List.length_drop, List.length_replicate]
     omega
   have HDL := Aside0.mk (show a2.toNat + ld.length ≤ d.length by rw [hdl, ← hji]; split <;> omega)
   clear hdl hjm hY hd2
   go_upto_if 39 with (fail)
   (try rw [hw])
   (try rw [hfb])
   go_upto_region 10 with ((with_reducible refine gate_callee (f := 49) rfl ?_); refine gl_ 51 Tryz.func49 (impl_sized.calls _ _ x4 ji d _ (kO HO3) (ko HO3) H4.out) ?_; rintro e w10 ⟨vd, rfl, ho, hb⟩; refine ⟨_, rfl, ?_⟩; have HOd := Aside0.mk (Kd.R_lower (Kd.R_newB (Kd.R_newB (Kd.R_newB ho (oF BK3)) (oF BK6)) (oF BK8)) (below_size oB)); obtain ⟨Ad, cd, rfl⟩ := Kd.R_slice ho; replace HS := Aside0.mk (Kd.S_mono (ok' := fun k_ => (k_ ≠ gb3 ∧ k_ ≠ gb6 ∧ k_ ≠ gb8) ∧ some k_ ≠ (Value.slice Ad d.length cd).ownBlock) (Kd.S_below (Kd.S_bound HS.out) hb) (fun k_ hk => ⟨hk.1, fun he => by have := Kd.R_base ho k_ he.symm; have := hk.2.2.1; omega⟩)); replace HO4 := ke_ HO4 ho hb; replace HO5 := ke_ HO5 ho hb; replace BK3 := kb_ BK3 hb; replace BK6 := kb_ BK6 hb; replace BK8 := kb_ BK8 hb; replace HB := Aside0.mk (below_step oB hb); clear hb ho; obtain ⟨⟨_, _, _, _, _, _⟩, _, _, _, _, _, _⟩ := z6 BK8)
   have n8_ : Aside0 ((w10.setCell ⟨gb8, 3, none⟩ (.slice Ad d.length cd)).heap[gb8]? = some (.cells #[.int .i64 x1, .int .i64 x2, .int .i64 x3, .slice Ad d.length cd, .slice A4 x5.length c4, .slice A5 x6.length c5] 51 (0, 0))) := ⟨oP BK8⟩
   replace HOd := Aside0.mk (Kd.R_far (p := ⟨gb8, 3, none⟩) HOd.out (fun _ hk => hk.2) (.slice Ad d.length cd))
   replace HO4 := Aside0.mk (Kd.R_far (p := ⟨gb8, 3, none⟩) (Kd.R_types HO4.out BK8.out (by decide)) (fun _ hk => hk.2) (.slice Ad d.length cd))
   replace HO5 := Aside0.mk (Kd.R_far (p := ⟨gb8, 3, none⟩) (Kd.R_types HO5.out BK8.out (by decide)) (fun _ hk => hk.2) (.slice Ad d.length cd))
   replace HS := Aside0.mk (Kd.S_far (p := ⟨gb8, 3, none⟩) HS.out (fun _ hk => hk.1.2.2) (.slice Ad d.length cd))
   generalize hW_ : w10.setCell ⟨gb8, 3, none⟩ (.slice Ad d.length cd) = w11 at n8_ HOd HO4 HO5 HS ⊢
   replace BK3 := kw_ hW_ BK3
   replace BK6 := kw_ hW_ BK6
   replace HB := hw_ hW_ HB
   clear BK8 hW_
   obtain ⟨⟨_, _, _, _, _, _⟩, _, _, _, _, _, _⟩ := z6 n8_
   have hd2 := of_decide_eq_true HD.out
   have k0 : (0 ≤ a2) = True := eq_true hd2.1
   have k1 : (a2 ≤ (d.length : Int)) = True := eq_true (by have := HDL.out; omega)
   go_upto_region 11 with ((with_reducible refine gate_builtin (b := .copy) rfl ?_); refine wcopy (w0 := w) w.heap.size rfl (.tmp 56) (.tmp 57) 22 22 5 rfl Tryz.underlying22 (by kernel_rfl) Ad cd a2.toNat d ld AD cD _ rfl rfl (oR HOd) (kC HRD) HDL.out oB (below_size oB) ?_; intro w12 ho hb hg; rw [← HY.out] at ho; have hYl := Aside0.mk ((Kd.R_reads' ho).1); have hne := Aside0.mk (Kd.R_reads' ho).2.1; replace BK3 := Aside0.mk (blk_grown BK3.out hg (Kd.R_away HOd.out (fun _ hk => hk.1.1.2))); replace BK6 := Aside0.mk (blk_grown BK6.out hg (Kd.R_away HOd.out (fun _ hk => hk.1.2))); replace n8_ := Aside0.mk (blk_grown n8_.out hg (Kd.R_away HOd.out (fun _ hk => hk.2))); replace HO4 := Aside0.mk (Kd.R_grown HO4.out hg (fun _ hk => hk.1.2)); replace HO5 := Aside0.mk (Kd.R_grown HO5.out hg (fun _ hk => hk.1.2)); replace HS := Aside0.mk (Kd.S_step HS.out (fun k_ hk hlt => hg.block k_ hlt hk.2)); replace HB := Aside0.mk hb; replace HOd := Aside0.mk ho; clear ho hb hg)
   have hYd : d.length = Y.length := by rw [HY.out]; have := HDL.out; simp only [List.length_append, List.length_take, List.length_drop]; omega
   rw [hYd] at n8_ HOd
   clear hYd
   obtain ⟨⟨_, _⟩, _, _⟩ := z2 BK3
   obtain ⟨⟨_, _, _, _, _, _⟩, _, _, _, _, _, _⟩ := z6 n8_
   clear hw hfb hji k0 k1 hd2
   generalize (if cd = a2.toNat then Ad else Option.map (fun p => p.add a2.toNat) Ad) = AX_
   go_wp2_with ((with_reducible refine gate_callee (f := 50) rfl ?_); refine gl_ 61 Tryz.func50 (impl_SetInode.calls k _ _ t1 t2 x1 x2 x3 _ _ Y _ _ x5 _ _ x6 s1 s2 _ (rS HS) (rl HS) (kO HOd) (ko HOd) (kO HO4) (ko HO4) (kO HO5) (ko HO5) H5.out) ?_; rintro e w13 ⟨v0, rfl, hs, hb⟩; refine ⟨_, rfl, ?_⟩; obtain ⟨A0, c0, rfl⟩ := Kd.S_slice hs; have HS2 := siv' hs w12.heap.size w.heap.size (Nat.le_refl _) (below_size HB.out); have hl6 := Aside0.mk (blk_lt BK6.out); replace BK6 := kb_ BK6 hb; replace HB := Aside0.mk (below_step oB hb); clear hs hb; obtain ⟨⟨_, _⟩, _, _⟩ := z2 BK6)
   try simp only [Exit.inBlock, Exit.then]
   refine bodyPost_ret (results_ct rfl _ _ gb6 26 #[.slice A0 s1.length c0, .int .i64 s2] (0, 0) _ rfl (oP BK6) Tryz.underlying26 rfl (by kernel_rfl)) rfl ?_
   exact ⟨_, rfl, Kd.S_mono (Kd.S_far (Kd.S_far HS2.out (fun k_ hk => by have := hk.1; have := hl6.out; dsimp only; omega) _) (fun k_ hk => by have := hk.1; have := hl6.out; dsimp only; omega) _) (fun _ _ => trivial), oB⟩
end Go.Proofs.YtkcfmbggdkkfeaaGreatDoor.P
