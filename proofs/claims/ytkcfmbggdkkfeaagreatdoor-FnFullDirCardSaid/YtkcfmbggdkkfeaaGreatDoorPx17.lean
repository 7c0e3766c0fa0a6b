-- By this session's own program (wip/myprint.py) out of the translation; Lean checks it.
import Derived.Test.YtkcfmbggdkkfeaaGreatDoorPx0
import Derived.Test.YtkcfmbggdkkfeaaGreatDoorPx3
import Derived.Test.YtkcfmbggdkkfeaaGreatDoorPx14
namespace Go.Proofs.YtkcfmbggdkkfeaaGreatDoor.P
open Go.RowKit Go.Proofs.YtkcfmbggdkkfeaaGreatDoorW.PrintWords Go.Proofs.YtkcfmbggdkkfeaaGreatDoorW.PrintLast Go.Proofs.YtkcfmbggdkkfeaaGreatDoorW.PrintMore
attribute [local go_sem] max2_int min2_int max_two min_two max_three min_three max_four min_four   -- for this text's walks alone
set_option linter.unusedVariables false
set_option linter.unusedSimpArgs false

/-! ### impl_MakeDir: function 14 -/
def impl_MakeDir.f (k : Nat) (l0_0 : List (S51)) (a0_1 : Int) (a1 : ByteArray) : Option ((List (S51)) × Int × Int) := (impl_makeAt.f k l0_0 a0_1 a1 2).bind fun bt390 => (some (bt390.1, bt390.2.1, bt390.2.2))
set_option maxHeartbeats 8000000 in
set_option maxRecDepth 100000 in
theorem impl_MakeDir.calls (k : Nat) (A0_0 : Option Addr) (c0_0 : Nat) (l0_0 : List (S51)) (a0_1 : Int) (a1 : ByteArray) (r1 : List (S51)) (r2 : Int) (r3 : Int) (w : World) (hr0_0 : Kd.C k51 w A0_0 l0_0.length l0_0) (hc0_0 : l0_0.length ≤ c0_0) (h : impl_MakeDir.f k l0_0 a0_1 a1 = some (r1, r2, r3)) (hG : GOk w := by exact gk_ oB (by first | (with_reducible assumption) | assumption)) :
  Calls Tryz.prog 14 #[.agg #[.slice A0_0 l0_0.length c0_0, .int .i64 a0_1], .string a1] w fun e w' => ∃ v0_ : Value, e = .returned (.tuple #[.agg #[v0_, .int .i64 r2], .int .i64 r3]) ∧ Kd.S k51 51 w' w.heap.size (fun _ => True) v0_ r1 ∧ Below w.heap.size w w' := by
 have HG := Aside0.mk hG
 clear hG
 have hu26 := Tryz.underlying26
 have HR0_0 := Aside0.mk hr0_0
 have HC0_0 := Aside0.mk hc0_0
 clear hr0_0 hc0_0
 have HB := Aside0.mk (Below.refl w.heap.size w)
 unfold impl_MakeDir.f at h
 have H := h
 clear h
 replace H := bA H
 obtain ⟨⟨t390, t393, t394⟩, A3, H⟩ := H
 try dsimp only at H
 simp only [Option.some.injEq, Prod.mk.injEq] at H
 obtain ⟨rfl, rfl, rfl⟩ := H
 go_enter Tryz.func14, Tryz.ntmps14
 go_wp2_with (first | ((with_reducible refine gate_dst (N := 2) rfl ?_); refine bx_ 2 #[.slice A0_0 l0_0.length c0_0, .int .i64 a0_1] 26 ?_; intro gb388 hg w4 hbox hb; have BK388 := Aside0.mk (hbox); have GW388 := gs_ hg; replace HB := Aside0.mk (below_step oB hb); clear hb hbox hg) | ((with_reducible refine gate_dst (N := 4) rfl ?_); refine bx_ 4 #[.slice none 0 0, .int .i64 0] 26 ?_; intro gb389 hg w5 hbox hb; have BK389 := Aside0.mk (hbox); have GW389 := gs_ hg; have NB388_389 := nl_ hg BK388; have NB389_388 := nr_ hg BK388; replace BK388 := kb_ BK388 hb; replace HB := Aside0.mk (below_step oB hb); clear hb hbox hg; have hnb6 := NB388_389.out; have hnc6 := NB389_388.out; obtain ⟨⟨_, _⟩, _, _⟩ := z2 BK388) | ((with_reducible refine gate_callee (f := 35) rfl ?_); refine gl_ 8 Tryz.func35 (impl_makeAt.calls k _ _ l0_0 a0_1 a1 2 t390 t393 t394 _ (kC HR0_0) HC0_0.out A3.out) ?_; rintro e w8 ⟨v391, rfl, ho0, hb⟩; refine ⟨_, rfl, ?_⟩; have HO392 := Aside0.mk (Kd.S_lower ho0 (below_size oB)); replace BK388 := kb_ BK388 hb; replace BK389 := kb_ BK389 hb; replace HB := Aside0.mk (below_step oB hb); obtain ⟨Ao9, co9, eo9⟩ := Kd.S_slice HO392.out; subst eo9; obtain ⟨⟨_, _⟩, _, _⟩ := z2 BK389))
 refine bodyPost_ret (results_ct rfl _ _ gb389 26 #[.slice Ao9 t390.length co9, .int .i64 t393] (0, 0) _ rfl (oP BK389) Tryz.underlying26 rfl (by kernel_rfl)) rfl ?_
 exact ⟨_, oE, by (with_reducible repeat (first | apply Kd.S_alloc | apply Kd.S_drewN | apply Kd.S_drew)); exact Kd.S_mono (Kd.S_far (p := ⟨gb389, 1, none⟩) (Kd.S_far (p := ⟨gb389, 0, none⟩) (Kd.S_types HO392.out BK389.out (by decide)) (fun _ hk => hk.2) (.slice Ao9 t390.length co9)) (fun _ hk => hk.2) (.int .i64 t393)) (fun _ hk => trivial), oB⟩

/-! ### impl_MakeFile: function 15 -/
def impl_MakeFile.f (k : Nat) (l0_0 : List (S51)) (a0_1 : Int) (a1 : ByteArray) : Option ((List (S51)) × Int × Int) := (impl_makeAt.f k l0_0 a0_1 a1 1).bind fun bt397 => (some (bt397.1, bt397.2.1, bt397.2.2))
set_option maxHeartbeats 8000000 in
set_option maxRecDepth 100000 in
theorem impl_MakeFile.calls (k : Nat) (A0_0 : Option Addr) (c0_0 : Nat) (l0_0 : List (S51)) (a0_1 : Int) (a1 : ByteArray) (r1 : List (S51)) (r2 : Int) (r3 : Int) (w : World) (hr0_0 : Kd.C k51 w A0_0 l0_0.length l0_0) (hc0_0 : l0_0.length ≤ c0_0) (h : impl_MakeFile.f k l0_0 a0_1 a1 = some (r1, r2, r3)) (hG : GOk w := by exact gk_ oB (by first | (with_reducible assumption) | assumption)) :
  Calls Tryz.prog 15 #[.agg #[.slice A0_0 l0_0.length c0_0, .int .i64 a0_1], .string a1] w fun e w' => ∃ v0_ : Value, e = .returned (.tuple #[.agg #[v0_, .int .i64 r2], .int .i64 r3]) ∧ Kd.S k51 51 w' w.heap.size (fun _ => True) v0_ r1 ∧ Below w.heap.size w w' := by
 have HG := Aside0.mk hG
 clear hG
 have hu26 := Tryz.underlying26
 have HR0_0 := Aside0.mk hr0_0
 have HC0_0 := Aside0.mk hc0_0
 clear hr0_0 hc0_0
 have HB := Aside0.mk (Below.refl w.heap.size w)
 unfold impl_MakeFile.f at h
 have H := h
 clear h
 replace H := bA H
 obtain ⟨⟨t397, t400, t401⟩, A3, H⟩ := H
 try dsimp only at H
 simp only [Option.some.injEq, Prod.mk.injEq] at H
 obtain ⟨rfl, rfl, rfl⟩ := H
 go_enter Tryz.func15, Tryz.ntmps15
 go_wp2_with (first | ((with_reducible refine gate_dst (N := 2) rfl ?_); refine bx_ 2 #[.slice A0_0 l0_0.length c0_0, .int .i64 a0_1] 26 ?_; intro gb395 hg w4 hbox hb; have BK395 := Aside0.mk (hbox); have GW395 := gs_ hg; replace HB := Aside0.mk (below_step oB hb); clear hb hbox hg) | ((with_reducible refine gate_dst (N := 4) rfl ?_); refine bx_ 4 #[.slice none 0 0, .int .i64 0] 26 ?_; intro gb396 hg w5 hbox hb; have BK396 := Aside0.mk (hbox); have GW396 := gs_ hg; have NB395_396 := nl_ hg BK395; have NB396_395 := nr_ hg BK395; replace BK395 := kb_ BK395 hb; replace HB := Aside0.mk (below_step oB hb); clear hb hbox hg; have hnb6 := NB395_396.out; have hnc6 := NB396_395.out; obtain ⟨⟨_, _⟩, _, _⟩ := z2 BK395) | ((with_reducible refine gate_callee (f := 35) rfl ?_); refine gl_ 8 Tryz.func35 (impl_makeAt.calls k _ _ l0_0 a0_1 a1 1 t397 t400 t401 _ (kC HR0_0) HC0_0.out A3.out) ?_; rintro e w8 ⟨v398, rfl, ho0, hb⟩; refine ⟨_, rfl, ?_⟩; have HO399 := Aside0.mk (Kd.S_lower ho0 (below_size oB)); replace BK395 := kb_ BK395 hb; replace BK396 := kb_ BK396 hb; replace HB := Aside0.mk (below_step oB hb); obtain ⟨Ao9, co9, eo9⟩ := Kd.S_slice HO399.out; subst eo9; obtain ⟨⟨_, _⟩, _, _⟩ := z2 BK396))
 refine bodyPost_ret (results_ct rfl _ _ gb396 26 #[.slice Ao9 t397.length co9, .int .i64 t400] (0, 0) _ rfl (oP BK396) Tryz.underlying26 rfl (by kernel_rfl)) rfl ?_
 exact ⟨_, oE, by (with_reducible repeat (first | apply Kd.S_alloc | apply Kd.S_drewN | apply Kd.S_drew)); exact Kd.S_mono (Kd.S_far (p := ⟨gb396, 1, none⟩) (Kd.S_far (p := ⟨gb396, 0, none⟩) (Kd.S_types HO399.out BK396.out (by decide)) (fun _ hk => hk.2) (.slice Ao9 t397.length co9)) (fun _ hk => hk.2) (.int .i64 t400)) (fun _ hk => trivial), oB⟩

end Go.Proofs.YtkcfmbggdkkfeaaGreatDoor.P
