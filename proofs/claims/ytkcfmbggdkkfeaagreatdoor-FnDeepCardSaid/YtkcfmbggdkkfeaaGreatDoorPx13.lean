-- By this session's own program (wip/myprint.py) out of the translation; Lean checks it.
import Derived.Test.YtkcfmbggdkkfeaaGreatDoorPx0
import Derived.Test.YtkcfmbggdkkfeaaGreatDoorPx2
import Derived.Test.YtkcfmbggdkkfeaaGreatDoorPx3
import Derived.Test.YtkcfmbggdkkfeaaGreatDoorPx4
import Derived.Test.YtkcfmbggdkkfeaaGreatDoorPx6
import Derived.Test.YtkcfmbggdkkfeaaGreatDoorPx10
import Derived.Test.YtkcfmbggdkkfeaaGreatDoorPx11
import Derived.Test.YtkcfmbggdkkfeaaGreatDoorPx12
namespace Go.Proofs.YtkcfmbggdkkfeaaGreatDoor.P
open Go.RowKit Go.Proofs.YtkcfmbggdkkfeaaGreatDoorW.PrintWords Go.Proofs.YtkcfmbggdkkfeaaGreatDoorW.PrintLast Go.Proofs.YtkcfmbggdkkfeaaGreatDoorW.PrintMore
attribute [local go_sem] max2_int min2_int max_two min_two max_three min_three max_four min_four   -- for this text's walks alone
set_option linter.unusedVariables false
set_option linter.unusedSimpArgs false

/-! ### impl_MakeDir: function 14 -/
def impl_MakeDir.f (k : Nat) (l0_0 : List (S51)) (a0_1 : Int) (a1 : ByteArray) : Option ((List (S51)) × Int × Int) := (impl_makeAt.f k l0_0 a0_1 a1 2).bind fun bt395 => (some (bt395.1, bt395.2.1, bt395.2.2))
set_option maxHeartbeats 8000000 in
set_option maxRecDepth 100000 in
theorem impl_MakeDir.calls (k : Nat) (A0_0 : Option Addr) (c0_0 : Nat) (l0_0 : List (S51)) (a0_1 : Int) (a1 : ByteArray) (r1 : List (S51)) (r2 : Int) (r3 : Int) (w : World) (hr0_0 : Kd.C k51 w A0_0 l0_0.length l0_0) (hc0_0 : l0_0.length ≤ c0_0) (h : impl_MakeDir.f k l0_0 a0_1 a1 = some (r1, r2, r3)) (hG : GOk w := by exact gk_ oB (by first | (with_reducible assumption) | assumption)) :
  Calls Tryz.prog 14 #[.agg #[.slice A0_0 l0_0.length c0_0, .int .i64 a0_1], .string a1] w fun e w' => ∃ v0_ : Value, e = .returned (.tuple #[.agg #[v0_, .int .i64 r2], .int .i64 r3]) ∧ Kd.S k51 51 w' w.heap.size (fun _ => True) v0_ r1 ∧ Below w.heap.size w w' := by
 have HG := Aside0.mk hG
 clear hG
 have hu26 := Tryz.underlying26
 have HR0_0 := Aside0.mk hr0_0
 have HC0_0 := Aside0.mk hc0_0
 clear hr0_0 hc0_0
 have HB := Aside0.mk (Below.refl w.heap.size w)
 unfold impl_MakeDir.f at h
 have H := h
 clear h
 replace H := bA H
 obtain ⟨⟨t395, t398, t399⟩, A3, H⟩ := H
 try dsimp only at H
 simp only [Option.some.injEq, Prod.mk.injEq] at H
 obtain ⟨rfl, rfl, rfl⟩ := H
 go_enter Tryz.func14, Tryz.ntmps14
 go_wp2_with (first | ((with_reducible refine gate_dst (N := 2) rfl ?_); refine bx_ 2 #[.slice A0_0 l0_0.length c0_0, .int .i64 a0_1] 26 ?_; intro gb393 hg w4 hbox hb; have BK393 := Aside0.mk (hbox); have GW393 := gs_ hg; replace HB := Aside0.mk (below_step oB hb); clear hb hbox hg) | ((with_reducible refine gate_dst (N := 4) rfl ?_); refine bx_ 4 #[.slice none 0 0, .int .i64 0] 26 ?_; intro gb394 hg w5 hbox hb; have BK394 := Aside0.mk (hbox); have GW394 := gs_ hg; have NB393_394 := nl_ hg BK393; have NB394_393 := nr_ hg BK393; replace BK393 := kb_ BK393 hb; replace HB := Aside0.mk (below_step oB hb); clear hb hbox hg; have hnb6 := NB393_394.out; have hnc6 := NB394_393.out; obtain ⟨⟨_, _⟩, _, _⟩ := z2 BK393) | ((with_reducible refine gate_callee (f := 35) rfl ?_); refine gl_ 8 Tryz.func35 (impl_makeAt.calls k _ _ l0_0 a0_1 a1 2 t395 t398 t399 _ (kC HR0_0) HC0_0.out A3.out) ?_; rintro e w8 ⟨v396, rfl, ho0, hb⟩; refine ⟨_, rfl, ?_⟩; have HO397 := Aside0.mk (Kd.S_lower ho0 (below_size oB)); replace BK393 := kb_ BK393 hb; replace BK394 := kb_ BK394 hb; replace HB := Aside0.mk (below_step oB hb); obtain ⟨Ao9, co9, eo9⟩ := Kd.S_slice HO397.out; subst eo9; obtain ⟨⟨_, _⟩, _, _⟩ := z2 BK394))
 refine bodyPost_ret (results_ct rfl _ _ gb394 26 #[.slice Ao9 t395.length co9, .int .i64 t398] (0, 0) _ rfl (oP BK394) Tryz.underlying26 rfl (by kernel_rfl)) rfl ?_
 exact ⟨_, oE, by (with_reducible repeat (first | apply Kd.S_alloc | apply Kd.S_drewN | apply Kd.S_drew)); exact Kd.S_mono (Kd.S_far (p := ⟨gb394, 1, none⟩) (Kd.S_far (p := ⟨gb394, 0, none⟩) (Kd.S_types HO397.out BK394.out (by decide)) (fun _ hk => hk.2) (.slice Ao9 t395.length co9)) (fun _ hk => hk.2) (.int .i64 t398)) (fun _ hk => trivial), oB⟩

/-! ### impl_MakeFile: function 15 -/
def impl_MakeFile.f (k : Nat) (l0_0 : List (S51)) (a0_1 : Int) (a1 : ByteArray) : Option ((List (S51)) × Int × Int) := (impl_makeAt.f k l0_0 a0_1 a1 1).bind fun bt402 => (some (bt402.1, bt402.2.1, bt402.2.2))
set_option maxHeartbeats 8000000 in
set_option maxRecDepth 100000 in
theorem impl_MakeFile.calls (k : Nat) (A0_0 : Option Addr) (c0_0 : Nat) (l0_0 : List (S51)) (a0_1 : Int) (a1 : ByteArray) (r1 : List (S51)) (r2 : Int) (r3 : Int) (w : World) (hr0_0 : Kd.C k51 w A0_0 l0_0.length l0_0) (hc0_0 : l0_0.length ≤ c0_0) (h : impl_MakeFile.f k l0_0 a0_1 a1 = some (r1, r2, r3)) (hG : GOk w := by exact gk_ oB (by first | (with_reducible assumption) | assumption)) :
  Calls Tryz.prog 15 #[.agg #[.slice A0_0 l0_0.length c0_0, .int .i64 a0_1], .string a1] w fun e w' => ∃ v0_ : Value, e = .returned (.tuple #[.agg #[v0_, .int .i64 r2], .int .i64 r3]) ∧ Kd.S k51 51 w' w.heap.size (fun _ => True) v0_ r1 ∧ Below w.heap.size w w' := by
 have HG := Aside0.mk hG
 clear hG
 have hu26 := Tryz.underlying26
 have HR0_0 := Aside0.mk hr0_0
 have HC0_0 := Aside0.mk hc0_0
 clear hr0_0 hc0_0
 have HB := Aside0.mk (Below.refl w.heap.size w)
 unfold impl_MakeFile.f at h
 have H := h
 clear h
 replace H := bA H
 obtain ⟨⟨t402, t405, t406⟩, A3, H⟩ := H
 try dsimp only at H
 simp only [Option.some.injEq, Prod.mk.injEq] at H
 obtain ⟨rfl, rfl, rfl⟩ := H
 go_enter Tryz.func15, Tryz.ntmps15
 go_wp2_with (first | ((with_reducible refine gate_dst (N := 2) rfl ?_); refine bx_ 2 #[.slice A0_0 l0_0.length c0_0, .int .i64 a0_1] 26 ?_; intro gb400 hg w4 hbox hb; have BK400 := Aside0.mk (hbox); have GW400 := gs_ hg; replace HB := Aside0.mk (below_step oB hb); clear hb hbox hg) | ((with_reducible refine gate_dst (N := 4) rfl ?_); refine bx_ 4 #[.slice none 0 0, .int .i64 0] 26 ?_; intro gb401 hg w5 hbox hb; have BK401 := Aside0.mk (hbox); have GW401 := gs_ hg; have NB400_401 := nl_ hg BK400; have NB401_400 := nr_ hg BK400; replace BK400 := kb_ BK400 hb; replace HB := Aside0.mk (below_step oB hb); clear hb hbox hg; have hnb6 := NB400_401.out; have hnc6 := NB401_400.out; obtain ⟨⟨_, _⟩, _, _⟩ := z2 BK400) | ((with_reducible refine gate_callee (f := 35) rfl ?_); refine gl_ 8 Tryz.func35 (impl_makeAt.calls k _ _ l0_0 a0_1 a1 1 t402 t405 t406 _ (kC HR0_0) HC0_0.out A3.out) ?_; rintro e w8 ⟨v403, rfl, ho0, hb⟩; refine ⟨_, rfl, ?_⟩; have HO404 := Aside0.mk (Kd.S_lower ho0 (below_size oB)); replace BK400 := kb_ BK400 hb; replace BK401 := kb_ BK401 hb; replace HB := Aside0.mk (below_step oB hb); obtain ⟨Ao9, co9, eo9⟩ := Kd.S_slice HO404.out; subst eo9; obtain ⟨⟨_, _⟩, _, _⟩ := z2 BK401))
 refine bodyPost_ret (results_ct rfl _ _ gb401 26 #[.slice Ao9 t402.length co9, .int .i64 t405] (0, 0) _ rfl (oP BK401) Tryz.underlying26 rfl (by kernel_rfl)) rfl ?_
 exact ⟨_, oE, by (with_reducible repeat (first | apply Kd.S_alloc | apply Kd.S_drewN | apply Kd.S_drew)); exact Kd.S_mono (Kd.S_far (p := ⟨gb401, 1, none⟩) (Kd.S_far (p := ⟨gb401, 0, none⟩) (Kd.S_types HO404.out BK401.out (by decide)) (fun _ hk => hk.2) (.slice Ao9 t402.length co9)) (fun _ hk => hk.2) (.int .i64 t405)) (fun _ hk => trivial), oB⟩

/-! ### laws_FnDeep: function 3 -/
def laws_FnDeep.l0 : Nat → List Int → ByteArray → Int → List (S51) → Int → Option (Bool)
 | 0, _, _, _, _, _ => none
 | k + 1, x0, x3, x5, x467000, x467001 => if x5 < 29 then ((laws_slash.f x0 (wrap64 (x5 + 2))).bind fun t467 => (if x3.size + t467.size ≤ 9223372036854775807 then ((impl_MakeDir.f k x467000 x467001 (x3 ++ t467)).bind fun bt468 => (if bt468.2.2 = 0 then (laws_FnDeep.l0 k x0 (x3 ++ t467) (wrap64 (x5 + 1)) bt468.1 bt468.2.1) else (none))) else (none))) else (if x3.size + 2 ≤ 9223372036854775807 then ((impl_MakeFile.f k x467000 x467001 (x3 ++ (⟨#[47, 122]⟩ : ByteArray))).bind fun bt474 => ((impl_SplitPath.f k (x3 ++ (⟨#[47, 122]⟩ : ByteArray))).bind fun bt480 => (if x3.size + 4 ≤ 9223372036854775807 then ((impl_SplitPath.f k (x3 ++ (⟨#[47, 122, 47, 122]⟩ : ByteArray))).bind fun bt484 => (if bt474.2.2 = 5 then (if bt480.2 = true then (if (bt480.1.length : Int) = 30 then (if bt484.2 = true then (none) else ((impl_TreeOk.f k x467000 x467001).bind fun t488 => (if t488 = true then ((impl_PathsOf.f k x467000 x467001).bind fun t489 => (if (t489.length : Int) = 29 then ((impl_UsageOf.f k x467000 x467001).bind fun t492 => (some (t492 == 960))) else (none))) else (none)))) else (none)) else (none)) else (none))) else (none)))) else (none))
def laws_FnDeep.f (k : Nat) (l0 : List Int) : Option (Bool) := (laws_big.f l0).bind fun t461 => (if t461 = true then (some true) else ((impl_TabNew.f).bind fun bt462 => (laws_FnDeep.l0 k l0 (⟨#[]⟩ : ByteArray) 0 bt462.1 bt462.2)))
set_option maxHeartbeats 8000000 in
set_option maxRecDepth 100000 in
theorem laws_FnDeep.calls (k : Nat) (A0 : Option Addr) (c0 : Nat) (l0 : List Int) (r : Bool) (w : World) (hr0 : Kd.C (Kd.int .u8) w A0 l0.length l0) (hc0 : l0.length ≤ c0) (h : laws_FnDeep.f k l0 = some r) (hG : GOk w := by exact gk_ oB (by first | (with_reducible assumption) | assumption)) :
  Calls Tryz.prog 3 #[.slice A0 l0.length c0] w fun e w' => e = .returned (.bool r) ∧ Below w.heap.size w w' := by
 have HG := Aside0.mk hG
 clear hG
 have hu26 := Tryz.underlying26
 have HR0 := Aside0.mk hr0
 have HC0 := Aside0.mk hc0
 clear hr0 hc0
 have HB := Aside0.mk (Below.refl w.heap.size w)
 unfold laws_FnDeep.f at h
 have H := h
 clear h
 replace H := bA H
 obtain ⟨t461, A2, H⟩ := H
 try dsimp only at H
 replace H := itB H
 rcases H with ⟨rfl, H⟩ | ⟨rfl, H⟩
 ·obtain rfl := Option.some.inj H
  go_enter Tryz.func3, Tryz.ntmps3
  go_wp2_with (first | ((with_reducible refine gate_callee (f := 11) rfl ?_); refine gl_ 15 Tryz.func11 (laws_big.calls _ _ l0 true _ (kD HR0) HC0.out A2.out) ?_; rintro e w' ⟨rfl, ⟨nd, rfl⟩⟩; refine ⟨_, rfl, ?_⟩))
  go_ret
  exact ⟨oE, oB⟩
 ·replace H := bA H
  obtain ⟨⟨t462, t465⟩, A4, H⟩ := H
  try dsimp only at H
  have H' := Aside0.mk H
  clear H
  go_enter Tryz.func3, Tryz.ntmps3
  go_wp2_with (first | ((with_reducible refine gate_callee (f := 11) rfl ?_); refine gl_ 15 Tryz.func11 (laws_big.calls _ _ l0 false _ (kD HR0) HC0.out A2.out) ?_; rintro e w' ⟨rfl, ⟨nd, rfl⟩⟩; refine ⟨_, rfl, ?_⟩) | ((with_reducible refine gate_callee (f := 12) rfl ?_); refine gl_ 16 Tryz.func12 (impl_TabNew.calls  t462 t465 _ A4.out) ?_; rintro e w5 ⟨v463, rfl, ho0, hb⟩; refine ⟨_, rfl, ?_⟩; have HO464 := Aside0.mk (Kd.S_lower ho0 (below_size oB)); replace HB := Aside0.mk (below_step oB hb)) | ((with_reducible refine gate_dst (N := 4) rfl ?_); (try (refine gate_guard (by rfl) ?_; dsimp only)); refine bx_ 4 #[.slice none 0 0, .int .i64 0] 26 ?_; intro gb466 hg w6 hbox hb; have BK466 := Aside0.mk (hbox); have GW466 := gs_ hg; replace HO464 := beS0 HO464 hb; replace HB := Aside0.mk (below_step oB hb); clear hb hbox hg; obtain ⟨Ao7, co7, eo7⟩ := Kd.S_slice HO464.out; subst eo7; obtain ⟨⟨_, _⟩, _, _⟩ := z2 BK466))
  go_loopg [3, 5] k (fun kq v3 v5 w' => ∃ (x3_1 : ByteArray) (x5_1 : Int) (x467000_1 : List (S51)) (x467001_1 : Int) (u467000 : Value), v3 = .string x3_1 ∧ v5 = .int .i64 x5_1 ∧ Aside0 (laws_FnDeep.l0 kq l0 x3_1 x5_1 x467000_1 x467001_1 = some r) ∧ Aside0 (kq ≤ k) ∧ Aside0 (Kd.S k51 51 w' w.heap.size (fun _ => True) u467000 x467000_1) ∧ Aside0 (w'.heap[gb466]? = some (.cells #[u467000, .int .i64 x467001_1] 26 (0, 0))) ∧ Aside0 (Below w.heap.size w w'))
  case atStart => exact ⟨((⟨#[]⟩ : ByteArray)), (0), (t462), (t465), (.slice Ao7 t462.length co7), oS, oS, H', ⟨Nat.le_refl _⟩, ⟨by (with_reducible repeat (first | apply Kd.S_alloc | apply Kd.S_drewN | apply Kd.S_drew)); exact Kd.S_mono (Kd.S_far (p := ⟨gb466, 1, none⟩) (Kd.S_far (p := ⟨gb466, 0, none⟩) (Kd.S_types HO464.out BK466.out (by decide)) (fun _ hk => hk.2) (.slice Ao7 t462.length co7)) (fun _ hk => hk.2) (.int .i64 t465)) (fun _ hk => trivial)⟩, ⟨oP BK466⟩, ⟨oB⟩⟩
  case round =>
   clear H'
   obtain ⟨x3_1, x5_1, x467000_1, x467001_1, u467000, rfl, rfl, HA, HK1, HO_467000, BK466, HB⟩ := hrel
   cases gk with
   | zero => exact absurd HA.out (by simp [laws_FnDeep.l0])
   | succ k1 =>
    have H := HA.out
    clear HA
    simp only [laws_FnDeep.l0] at H
    replace H := itD H
    rcases H with ⟨c9b0, H⟩ | ⟨c9b0, H⟩
    ·replace H := bA H
     obtain ⟨t467, A10, H⟩ := H
     try dsimp only at H
     by_cases c11 : x3_1.size + t467.size ≤ 9223372036854775807
     ·rw [if_pos c11] at H
      have c11b0 := eq_true c11
      have c11b1 : decide (x3_1.size + t467.size ≤ 9223372036854775807) = true := decide_eq_true c11
      try have c11b2 : (9223372036854775807 < x3_1.size + t467.size) = False := eq_false (Nat.not_lt.2 c11)
      replace H := bA H
      obtain ⟨⟨t468, t471, t472⟩, A12, H⟩ := H
      try dsimp only at H
      by_cases c13 : t472 = 0
      ·rw [if_pos c13] at H
       have c13b0 : (t472 == 0) = true := beq_iff_eq.mpr c13
       have c13b1 : (t472 != 0) = false := bne_eq_false_iff_eq.mpr c13
       clear c13
       have H' := Aside0.mk H
       clear H
       go_wp2_with (first | ((with_reducible refine gate_callee (f := 13) rfl ?_); refine gl_ 25 Tryz.func13 (laws_slash.calls _ _ l0 (wrap64 (x5_1 + 2)) t467 _ (kC HR0) HC0.out A10.out) ?_; rintro e w14 ⟨rfl, hb⟩; refine ⟨_, rfl, ?_⟩; replace HO_467000 := beS0 HO_467000 hb; replace BK466 := kb_ BK466 hb; replace HB := Aside0.mk (below_step oB hb); obtain ⟨⟨_, _⟩, _, _⟩ := z2 BK466; obtain ⟨Ao16, co16, eo16⟩ := Kd.S_slice HO_467000.out; subst eo16) | ((with_reducible refine gate_callee (f := 14) rfl ?_); refine gl_ 30 Tryz.func14 (impl_MakeDir.calls k1 _ _ x467000_1 x467001_1 (x3_1 ++ t467) t468 t471 t472 _ (rcS0 HO_467000) (rnS HO_467000) A12.out) ?_; rintro e w17 ⟨v469, rfl, ho0, hb⟩; refine ⟨_, rfl, ?_⟩; have HO470 := Aside0.mk (Kd.S_lower (Kd.S_new' ho0 (ltS0 HO_467000)) (below_size oB)); replace HO_467000 := elS0 HO_467000 (Kd.S_base ho0) hb; replace BK466 := kb_ BK466 hb; replace HB := Aside0.mk (below_step oB hb)) | ((with_reducible refine gate_dst (N := 6) rfl ?_); (try (refine gate_guard (by rfl) ?_; dsimp only)); refine bx_ 6 #[.slice none 0 0, .int .i64 0] 26 ?_; intro gb473 hg w18 hbox hb; have BK473 := Aside0.mk (hbox); have GW473 := gs_ hg; have NB466_473 := nl_ hg BK466; have NB473_466 := nr_ hg BK466; replace HO_467000 := beS0 HO_467000 hb; replace HO470 := beS0 HO470 hb; replace BK466 := kb_ BK466 hb; replace HB := Aside0.mk (below_step oB hb); clear hb hbox hg; obtain ⟨Ao19, co19, eo19⟩ := Kd.S_slice HO470.out; subst eo19; have hnb20 := NB473_466.out; have hnc20 := NB466_473.out; obtain ⟨⟨_, _⟩, _, _⟩ := z2 BK473; obtain ⟨⟨_, _⟩, _, _⟩ := z2 BK466))
       go_roundg k1
       case measure => have := HK1.out; omega
       case rel => exact ⟨(x3_1 ++ t467), (wrap64 (x5_1 + 1)), (t468), (t471), (.slice Ao19 t468.length co19), oS, oS, H', ⟨by have := HK1.out; omega⟩, ⟨by (with_reducible repeat (first | apply Kd.S_alloc | apply Kd.S_drewN | apply Kd.S_drew)); exact Kd.S_mono (Kd.S_far (p := ⟨gb466, 1, none⟩) (Kd.S_far (p := ⟨gb466, 0, none⟩) (Kd.S_far (p := ⟨gb473, 1, none⟩) (Kd.S_far (p := ⟨gb473, 0, none⟩) (Kd.S_types (Kd.S_types HO470.out BK473.out (by decide)) BK466.out (by decide)) (fun _ hk => hk.1.2) (.slice Ao19 t468.length co19)) (fun _ hk => hk.1.2) (.int .i64 t471)) (fun _ hk => hk.2) (.slice Ao19 t468.length co19)) (fun _ hk => hk.2) (.int .i64 t471)) (fun _ hk => trivial)⟩, ⟨oP BK466⟩, ⟨oB⟩⟩
      ·rw [if_neg c13] at H
       cases H
     ·rw [if_neg c11] at H
      exact absurd H (by simp)
    ·by_cases c31 : x3_1.size + 2 ≤ 9223372036854775807
     ·rw [if_pos c31] at H
      have c31b0 := eq_true c31
      have c31b1 : decide (x3_1.size + 2 ≤ 9223372036854775807) = true := decide_eq_true c31
      try have c31b2 : (9223372036854775807 < x3_1.size + 2) = False := eq_false (Nat.not_lt.2 c31)
      replace H := bA H
      obtain ⟨⟨t474, t477, t478⟩, A32, H⟩ := H
      try dsimp only at H
      replace H := bA H
      obtain ⟨⟨t480, t481⟩, A33, H⟩ := H
      try dsimp only at H
      by_cases c34 : x3_1.size + 4 ≤ 9223372036854775807
      ·rw [if_pos c34] at H
       have c34b0 := eq_true c34
       have c34b1 : decide (x3_1.size + 4 ≤ 9223372036854775807) = true := decide_eq_true c34
       try have c34b2 : (9223372036854775807 < x3_1.size + 4) = False := eq_false (Nat.not_lt.2 c34)
       replace H := bA H
       obtain ⟨⟨t484, t485⟩, A35, H⟩ := H
       try dsimp only at H
       by_cases c36 : t478 = 5
       ·rw [if_pos c36] at H
        have c36b0 : (t478 == 5) = true := beq_iff_eq.mpr c36
        have c36b1 : (t478 != 5) = false := bne_eq_false_iff_eq.mpr c36
        clear c36
        replace H := itB H
        rcases H with ⟨rfl, H⟩ | ⟨rfl, H⟩
        ·by_cases c38 : (t480.length : Int) = 30
         ·rw [if_pos c38] at H
          have c38b0 : ((t480.length : Int) == 30) = true := beq_iff_eq.mpr c38
          have c38b1 : ((t480.length : Int) != 30) = false := bne_eq_false_iff_eq.mpr c38
          clear c38
          replace H := itB H
          rcases H with ⟨rfl, H⟩ | ⟨rfl, H⟩
          ·cases H
          ·replace H := bA H
           obtain ⟨t488, A50, H⟩ := H
           try dsimp only at H
           replace H := itB H
           rcases H with ⟨rfl, H⟩ | ⟨rfl, H⟩
           ·replace H := bA H
            obtain ⟨t489, A52, H⟩ := H
            try dsimp only at H
            by_cases c53 : (t489.length : Int) = 29
            ·rw [if_pos c53] at H
             have c53b0 : ((t489.length : Int) == 29) = true := beq_iff_eq.mpr c53
             have c53b1 : ((t489.length : Int) != 29) = false := bne_eq_false_iff_eq.mpr c53
             clear c53
             replace H := bA H
             obtain ⟨t492, A54, H⟩ := H
             try dsimp only at H
             obtain rfl := Option.some.inj H
             obtain ⟨⟨_, _⟩, _, _⟩ := z2 BK466
             obtain ⟨Ao56, co56, eo56⟩ := Kd.S_slice HO_467000.out
             subst eo56
             go_wp2_with (first | ((with_reducible refine gate_callee (f := 15) rfl ?_); refine gl_ 40 Tryz.func15 (impl_MakeFile.calls k1 _ _ x467000_1 x467001_1 (x3_1 ++ (⟨#[47, 122]⟩ : ByteArray)) t474 t477 t478 _ (rcS0 HO_467000) (rnS HO_467000) A32.out) ?_; rintro e w57 ⟨v475, rfl, ho0, hb⟩; refine ⟨_, rfl, ?_⟩; have HO476 := Aside0.mk (Kd.S_lower (Kd.S_new' ho0 (ltS0 HO_467000)) (below_size oB)); replace HO_467000 := elS0 HO_467000 (Kd.S_base ho0) hb; replace BK466 := kb_ BK466 hb; replace HB := Aside0.mk (below_step oB hb)) | ((with_reducible refine gate_dst (N := 8) rfl ?_); (try (refine gate_guard (by rfl) ?_; dsimp only)); refine bx_ 8 #[.slice none 0 0, .int .i64 0] 26 ?_; intro gb479 hg w58 hbox hb; have BK479 := Aside0.mk (hbox); have GW479 := gs_ hg; have NB466_479 := nl_ hg BK466; have NB479_466 := nr_ hg BK466; replace HO_467000 := beS0 HO_467000 hb; replace HO476 := beS0 HO476 hb; replace BK466 := kb_ BK466 hb; replace HB := Aside0.mk (below_step oB hb); clear hb hbox hg; obtain ⟨Ao59, co59, eo59⟩ := Kd.S_slice HO476.out; subst eo59; have hnb60 := NB479_466.out; have hnc60 := NB466_479.out; obtain ⟨⟨_, _⟩, _, _⟩ := z2 BK479) | ((with_reducible refine gate_callee (f := 16) rfl ?_); refine gl_ 46 Tryz.func16 (impl_SplitPath.calls k1 (x3_1 ++ (⟨#[47, 122]⟩ : ByteArray)) t480 true _ A33.out) ?_; rintro e w62 ⟨v482, rfl, ho0, hb⟩; refine ⟨_, rfl, ?_⟩; have HO483 := Aside0.mk (Kd.Q_lower ho0 (below_size oB)); replace HO_467000 := beS1 HO_467000 BK479 hb; replace HO476 := beS1 HO476 BK479 hb; replace BK466 := kb_ BK466 hb; replace BK479 := kp_ #[.slice Ao59 t474.length co59, .int .i64 t477] BK479 hb; replace HB := Aside0.mk (below_step oB hb); (try clear hk)) | ((with_reducible refine gate_callee (f := 16) rfl ?_); refine gl_ 52 Tryz.func16 (impl_SplitPath.calls k1 (x3_1 ++ (⟨#[47, 122, 47, 122]⟩ : ByteArray)) t484 false _ A35.out) ?_; rintro e w63 ⟨v486, rfl, ho0, hb⟩; refine ⟨_, rfl, ?_⟩; have HO487 := Aside0.mk (Kd.Q_lower (Kd.Q_new' ho0 (ltQ0 HO483)) (below_size oB)); replace HO_467000 := beS0 HO_467000 hb; replace HO476 := beS0 HO476 hb; replace HO483 := Aside0.mk (Kd.Q_elder' (nQ0 HO483) (Kd.Q_base ho0) hb); replace BK466 := kb_ BK466 hb; replace BK479 := kb_ BK479 hb; replace HB := Aside0.mk (below_step oB hb); obtain ⟨Ao64, co64, eo64, _⟩ := Kd.Q_slice HO483.out; subst eo64; obtain ⟨⟨_, _⟩, _, _⟩ := z2 BK466) | (go_at_call 17; (with_reducible refine (impl_TreeOk.calls k1 _ _ x467000_1 x467001_1 true _ (rcS0 HO_467000) (rnS HO_467000) A50.out).mono ?_); rintro e w66 ⟨rfl, hb⟩; replace HO_467000 := beS0 HO_467000 hb; replace HO476 := beS0 HO476 hb; replace HO483 := beQ0 HO483 hb; replace HO487 := beQ0 HO487 hb; replace BK466 := kb_ BK466 hb; replace BK479 := kb_ BK479 hb; replace HB := Aside0.mk (below_step oB hb); obtain ⟨⟨_, _⟩, _, _⟩ := z2 BK466) | (go_at_call 18; (with_reducible refine (impl_PathsOf.calls k1 _ _ x467000_1 x467001_1 t489 _ (rcS0 HO_467000) (rnS HO_467000) A52.out).mono ?_); rintro e w68 ⟨v490, rfl, ho0, hb⟩; have HO491 := Aside0.mk (Kd.R_lower (Kd.R_new' (Kd.R_new' ho0 (ltQ0 HO483)) (ltQ0 HO487)) (below_size oB)); replace HO_467000 := beS0 HO_467000 hb; replace HO476 := beS0 HO476 hb; replace HO483 := Aside0.mk (Kd.Q_elder' (nQ0 HO483) (Kd.R_base ho0) hb); replace HO487 := Aside0.mk (Kd.Q_elder' (nQ0 HO487) (Kd.R_base ho0) hb); replace BK466 := kb_ BK466 hb; replace BK479 := kb_ BK479 hb; replace HB := Aside0.mk (below_step oB hb); obtain ⟨Ao69, co69, eo69⟩ := Kd.R_slice HO491.out; subst eo69; obtain ⟨⟨_, _⟩, _, _⟩ := z2 BK466) | (go_at_call 19; (with_reducible refine (impl_UsageOf.calls k1 _ _ x467000_1 x467001_1 t492 _ (rcS0 HO_467000) (rnS HO_467000) A54.out).mono ?_); rintro e w71 ⟨rfl, hb⟩; replace HO_467000 := beS0 HO_467000 hb; replace HO476 := beS0 HO476 hb; replace HO483 := beQ0 HO483 hb; replace HO487 := beQ0 HO487 hb; replace HO491 := kr_ HO491 hb; replace BK466 := kb_ BK466 hb; replace BK479 := kb_ BK479 hb; replace HB := Aside0.mk (below_step oB hb)))
             go_ret
             exact ⟨oE, oB⟩
            ·rw [if_neg c53] at H
             cases H
           ·cases H
         ·rw [if_neg c38] at H
          cases H
        ·cases H
       ·rw [if_neg c36] at H
        cases H
      ·rw [if_neg c34] at H
       exact absurd H (by simp)
     ·rw [if_neg c31] at H
      exact absurd H (by simp)

/-- THE ONE PURE STATEMENT of laws_FnDeep: yours. -/
def laws_FnDeep.Pure : Prop := ∀ (l0 : List Int), l0.length ≤ maxLen → l0.length * 1 ≤ 140737488351232 → (∀ x ∈ l0, (Lit.int .u8 x).wf = true) → ∃ k, laws_FnDeep.f k l0 = some true
theorem laws_FnDeep.walk (P : laws_FnDeep.Pure) (a0 : Option Addr) (len0 cap0 : Nat) (z0 : List Int) (w : World) (w0 : (a0 = none ∧ len0 = 0 ∧ cap0 = 0 ∧ z0 = []) ∨ ∃ x, a0 = some x ∧ len0 ≤ cap0 ∧ cap0 ≤ maxLen ∧ z0.length = cap0 ∧ (∀ i, i < z0.length → w.cell? (x.add i) = some (.int .u8 (z0.getD i 0))) ∧ ∀ n ∈ z0, (Lit.int .u8 n).wf = true) (y0 : len0 * 1 ≤ 140737488351232) (hG : GOk w) :
  Calls Tryz.prog 3 #[.slice a0 len0 cap0] w fun e w' => e = .returned (.bool true) ∧ Below w.heap.size w w' := by
 obtain ⟨l0, rfl, hr0, hm0, hw0, hc0⟩ := ReadsInt.ofRowC w0
 obtain ⟨k, h⟩ := P l0 hm0 y0 hw0
 refine (laws_FnDeep.calls k _ _ l0 true w (Kd.C_of_reads (d := (0 : Int)) (h1 := fun _ => rfl) hr0) hc0 h hG).mono ?_
 rintro e w' ⟨rfl, hd⟩
 exact ⟨rfl, hd⟩

end Go.Proofs.YtkcfmbggdkkfeaaGreatDoor.P
