-- By this session's own program (wip/myprint.py) out of the translation; Lean checks it.
import Derived.Test.YtkfcmpalbhmmaaaDoorPx0
import Derived.Test.YtkfcmpalbhmmaaaDoorPx1
import Derived.Test.YtkfcmpalbhmmaaaDoorPx2
import Derived.Test.YtkfcmpalbhmmaaaDoorPx4
namespace Go.Proofs.YtkfcmpalbhmmaaaDoor.P
open Go.RowKit Go.Proofs.YtkfcmpalbhmmaaaDoorW.PrintWords Go.Proofs.YtkfcmpalbhmmaaaDoorW.PrintLast Go.Proofs.YtkfcmpalbhmmaaaDoorW.PrintMore
attribute [local go_sem] max2_int min2_int max_two min_two max_three min_three max_four min_four   -- for this text's walks alone
set_option linter.unusedVariables false
set_option linter.unusedSimpArgs false

/-! ### impl_Stat: function 48 -/
def impl_Stat.f (k : Nat) (l0_0 : List (S64)) (a0_1 : Int) (a1 : ByteArray) : Option (Int × Int × Int × List Int × (List (S91)) × (List (S87)) × Int) := (impl_Walk.f k l0_0 a0_1 a1).bind fun bt415 => (if bt415.2 = 0 then ((impl_InodeAt.f k l0_0 a0_1 bt415.1).bind fun bt417 => (if bt417.2.2.2.2.2.2 = true then (some (bt417.1, bt417.2.1, bt417.2.2.1, bt417.2.2.2.1, bt417.2.2.2.2.1, bt417.2.2.2.2.2.1, 0)) else (some (0, 0, 0, ([] : List Int), ([] : List (S91)), ([] : List (S87)), 2)))) else (some (0, 0, 0, ([] : List Int), ([] : List (S91)), ([] : List (S87)), bt415.2)))
set_option maxHeartbeats 8000000 in
set_option maxRecDepth 100000 in
theorem impl_Stat.calls (k : Nat) (A0_0 : Option Addr) (c0_0 : Nat) (l0_0 : List (S64)) (a0_1 : Int) (a1 : ByteArray) (r1 : Int) (r2 : Int) (r3 : Int) (r4 : List Int) (r5 : List (S91)) (r6 : List (S87)) (r7 : Int) (w : World) (hr0_0 : Kd.C k64 w A0_0 l0_0.length l0_0) (hc0_0 : l0_0.length ≤ c0_0) (h : impl_Stat.f k l0_0 a0_1 a1 = some (r1, r2, r3, r4, r5, r6, r7)) (hG : GOk w := by exact gk_ oB (by first | (with_reducible assumption) | assumption)) :
  Calls Tryd.prog 48 #[.agg #[.slice A0_0 l0_0.length c0_0, .int .i64 a0_1], .string a1] w fun e w' => ∃ v3_ v4_ v5_ : Value, e = .returned (.tuple #[.agg #[.int .i64 r1, .int .i64 r2, .int .i64 r3, v3_, v4_, v5_], .int .i64 r7]) ∧ Kd.R (Kd.int .u8) 5 w' w.heap.size (fun _ => True) v3_ r4 ∧ Kd.R k91 91 w' w.heap.size (fun _ => True) v4_ r5 ∧ Kd.R k87 87 w' w.heap.size (fun _ => True) v5_ r6 ∧ Below w.heap.size w w' := by
 have HG := Aside0.mk hG
 clear hG
 have hu46 := Tryd.underlying46
 have hu64 := Tryd.underlying64
 have HR0_0 := Aside0.mk hr0_0
 have HC0_0 := Aside0.mk hc0_0
 clear hr0_0 hc0_0
 have HB := Aside0.mk (Below.refl w.heap.size w)
 unfold impl_Stat.f at h
 have H := h
 clear h
 replace H := bA H
 obtain ⟨⟨t415, t416⟩, A3, H⟩ := H
 try dsimp only at H
 by_cases c4 : t416 = 0
 ·rw [if_pos c4] at H
  have c4b0 : (t416 == 0) = true := beq_iff_eq.mpr c4
  have c4b1 : (t416 != 0) = false := bne_eq_false_iff_eq.mpr c4
  clear c4
  replace H := bA H
  obtain ⟨⟨t417, t418, t419, t420, t423, t426, t429⟩, A5, H⟩ := H
  try dsimp only at H
  replace H := itB H
  rcases H with ⟨rfl, H⟩ | ⟨rfl, H⟩
  ·simp only [Option.some.injEq, Prod.mk.injEq] at H
   obtain ⟨rfl, rfl, rfl, rfl, rfl, rfl, rfl⟩ := H
   go_enter Tryd.func48, Tryd.ntmps48
   go_wp2_with (first | ((with_reducible refine gate_dst (N := 2) rfl ?_); refine bx_ 2 #[.slice A0_0 l0_0.length c0_0, .int .i64 a0_1] 46 ?_; intro gb413 hg w7 hbox hb; have BK413 := Aside0.mk (hbox); have GW413 := gs_ hg; have GE413 := gs_ hg; replace HB := Aside0.mk (below_step oB hb); clear hb hbox hg) | ((with_reducible refine gate_dst (N := 4) rfl ?_); refine bx_ 4 #[.int .i64 0, .int .i64 0, .int .i64 0, .slice none 0 0, .slice none 0 0, .slice none 0 0] 64 ?_; intro gb414 hg w8 hbox hb; have BK414 := Aside0.mk (hbox); have GW414 := gs_ hg; have GE414 := gs_ hg; have NB413_414 := nl_ hg BK413; have NB414_413 := nr_ hg BK413; replace BK413 := kb_ BK413 hb; replace HB := Aside0.mk (below_step oB hb); clear hb hbox hg; have hnb9 := NB413_414.out; have hnc9 := NB414_413.out; obtain ⟨⟨_, _⟩, _, _⟩ := z2 BK413) | ((with_reducible refine gate_callee (f := 35) rfl ?_); refine gl_ 13 Tryd.func35 (impl_Walk.calls k _ _ l0_0 a0_1 a1 t415 t416 _ (kC HR0_0) HC0_0.out A3.out) ?_; rintro e w11 ⟨rfl, hb⟩; refine ⟨_, rfl, ?_⟩; replace BK413 := kb_ BK413 hb; replace BK414 := kb_ BK414 hb; replace HB := Aside0.mk (below_step oB hb); obtain ⟨⟨_, _⟩, _, _⟩ := z2 BK413) | ((with_reducible refine gate_callee (f := 67) rfl ?_); refine gl_ 23 Tryd.func67 (impl_InodeAt.calls k _ _ l0_0 a0_1 t415 t417 t418 t419 t420 t423 t426 true _ (kC HR0_0) HC0_0.out A5.out) ?_; rintro e w13 ⟨v421, v424, v427, rfl, ho0, ho1, ho2, hb⟩; refine ⟨_, rfl, ?_⟩; have HO422 := Aside0.mk (Kd.R_lower ho0 (below_size oB)); have HO425 := Aside0.mk (Kd.R_lower ho1 (below_size oB)); have HO428 := Aside0.mk (Kd.R_lower ho2 (below_size oB)); replace BK413 := kb_ BK413 hb; replace BK414 := kb_ BK414 hb; replace HB := Aside0.mk (below_step oB hb); (try clear ho1); (try clear ho2)) | ((with_reducible refine gate_dst (N := 8) rfl ?_); refine bx_ 8 #[.int .i64 0, .int .i64 0, .int .i64 0, .slice none 0 0, .slice none 0 0, .slice none 0 0] 64 ?_; intro gb430 hg w14 hbox hb; have BK430 := Aside0.mk (hbox); have GW430 := gs_ hg; have GE430 := gs_ hg; have NB413_430 := nl_ hg BK413; have NB430_413 := nr_ hg BK413; have NB414_430 := nl_ hg BK414; have NB430_414 := nr_ hg BK414; replace HO422 := kr_ HO422 hb; replace HO425 := kr_ HO425 hb; replace HO428 := kr_ HO428 hb; replace BK413 := kb_ BK413 hb; replace BK414 := kb_ BK414 hb; replace HB := Aside0.mk (below_step oB hb); clear hb hbox hg; have hnb15 := NB430_413.out; have hnc15 := NB413_430.out; have hnb16 := NB430_414.out; have hnc16 := NB414_430.out; obtain ⟨⟨_, _, _, _, _, _⟩, _, _, _, _, _, _⟩ := z6 BK430; obtain ⟨Ao18, co18, eo18⟩ := Kd.R_slice HO422.out; subst eo18; obtain ⟨Ao19, co19, eo19⟩ := Kd.R_slice HO425.out; subst eo19; obtain ⟨Ao20, co20, eo20⟩ := Kd.R_slice HO428.out; subst eo20; obtain ⟨⟨_, _, _, _, _, _⟩, _, _, _, _, _, _⟩ := z6 BK414))
   refine bodyPost_ret (results_ct rfl _ _ gb414 64 #[.int .i64 t417, .int .i64 t418, .int .i64 t419, .slice Ao18 t420.length co18, .slice Ao19 t423.length co19, .slice Ao20 t426.length co20] (0, 0) _ rfl (by (with_reducible repeat (first | refine blk_drewN ?_ _ | refine blk_drew ?_ | refine blk_alloc ?_ _)); refine blk_put (cs := #[.int .i64 t417, .int .i64 t418, .int .i64 t419, .slice Ao18 t420.length co18, .slice Ao19 t423.length co19, .slice none 0 0]) ?_ 5 _ rfl; (with_reducible repeat (first | refine blk_drewN ?_ _ | refine blk_drew ?_ | refine blk_alloc ?_ _)); refine blk_put (cs := #[.int .i64 t417, .int .i64 t418, .int .i64 t419, .slice Ao18 t420.length co18, .slice none 0 0, .slice none 0 0]) ?_ 4 _ rfl; (with_reducible repeat (first | refine blk_drewN ?_ _ | refine blk_drew ?_ | refine blk_alloc ?_ _)); refine blk_put (cs := #[.int .i64 t417, .int .i64 t418, .int .i64 t419, .slice none 0 0, .slice none 0 0, .slice none 0 0]) ?_ 3 _ rfl; (with_reducible repeat (first | refine blk_drewN ?_ _ | refine blk_drew ?_ | refine blk_alloc ?_ _)); refine blk_put (cs := #[.int .i64 t417, .int .i64 t418, .int .i64 0, .slice none 0 0, .slice none 0 0, .slice none 0 0]) ?_ 2 _ rfl; (with_reducible repeat (first | refine blk_drewN ?_ _ | refine blk_drew ?_ | refine blk_alloc ?_ _)); refine blk_put (cs := #[.int .i64 t417, .int .i64 0, .int .i64 0, .slice none 0 0, .slice none 0 0, .slice none 0 0]) ?_ 1 _ rfl; (with_reducible repeat (first | refine blk_drewN ?_ _ | refine blk_drew ?_ | refine blk_alloc ?_ _)); refine blk_put (cs := #[.int .i64 0, .int .i64 0, .int .i64 0, .slice none 0 0, .slice none 0 0, .slice none 0 0]) ?_ 0 _ rfl; (with_reducible repeat (first | refine blk_drewN ?_ _ | refine blk_drew ?_ | refine blk_alloc ?_ _)); refine blk_far ?_ NB414_430.out _; (with_reducible repeat (first | refine blk_drewN ?_ _ | refine blk_drew ?_ | refine blk_alloc ?_ _)); refine blk_far ?_ NB414_430.out _; (with_reducible repeat (first | refine blk_drewN ?_ _ | refine blk_drew ?_ | refine blk_alloc ?_ _)); refine blk_far ?_ NB414_430.out _; (with_reducible repeat (first | refine blk_drewN ?_ _ | refine blk_drew ?_ | refine blk_alloc ?_ _)); refine blk_far ?_ NB414_430.out _; (with_reducible repeat (first | refine blk_drewN ?_ _ | refine blk_drew ?_ | refine blk_alloc ?_ _)); refine blk_far ?_ NB414_430.out _; (with_reducible repeat (first | refine blk_drewN ?_ _ | refine blk_drew ?_ | refine blk_alloc ?_ _)); refine blk_far ?_ NB414_430.out _; (with_reducible repeat (first | refine blk_drewN ?_ _ | refine blk_drew ?_ | refine blk_alloc ?_ _)); exact BK414.out) Tryd.underlying64 rfl (by kernel_rfl)) rfl ?_
   exact ⟨_, _, _, oE, by (with_reducible repeat (first | apply Kd.R_alloc | apply Kd.R_drewN | apply Kd.R_drew)); exact Kd.R_mono (Kd.R_far (p := ⟨gb414, 5, none⟩) (Kd.R_far (p := ⟨gb414, 4, none⟩) (Kd.R_far (p := ⟨gb414, 3, none⟩) (Kd.R_far (p := ⟨gb414, 2, none⟩) (Kd.R_far (p := ⟨gb414, 1, none⟩) (Kd.R_far (p := ⟨gb414, 0, none⟩) (Kd.R_far (p := ⟨gb430, 5, none⟩) (Kd.R_far (p := ⟨gb430, 4, none⟩) (Kd.R_far (p := ⟨gb430, 3, none⟩) (Kd.R_far (p := ⟨gb430, 2, none⟩) (Kd.R_far (p := ⟨gb430, 1, none⟩) (Kd.R_far (p := ⟨gb430, 0, none⟩) (Kd.R_types (Kd.R_types HO422.out BK430.out (by decide)) BK414.out (by decide)) (fun _ hk => hk.1.2) (.int .i64 t417)) (fun _ hk => hk.1.2) (.int .i64 t418)) (fun _ hk => hk.1.2) (.int .i64 t419)) (fun _ hk => hk.1.2) (.slice Ao18 t420.length co18)) (fun _ hk => hk.1.2) (.slice Ao19 t423.length co19)) (fun _ hk => hk.1.2) (.slice Ao20 t426.length co20)) (fun _ hk => hk.2) (.int .i64 t417)) (fun _ hk => hk.2) (.int .i64 t418)) (fun _ hk => hk.2) (.int .i64 t419)) (fun _ hk => hk.2) (.slice Ao18 t420.length co18)) (fun _ hk => hk.2) (.slice Ao19 t423.length co19)) (fun _ hk => hk.2) (.slice Ao20 t426.length co20)) (fun _ hk => trivial), by (with_reducible repeat (first | apply Kd.R_alloc | apply Kd.R_drewN | apply Kd.R_drew)); exact Kd.R_mono (Kd.R_far (p := ⟨gb414, 5, none⟩) (Kd.R_far (p := ⟨gb414, 4, none⟩) (Kd.R_far (p := ⟨gb414, 3, none⟩) (Kd.R_far (p := ⟨gb414, 2, none⟩) (Kd.R_far (p := ⟨gb414, 1, none⟩) (Kd.R_far (p := ⟨gb414, 0, none⟩) (Kd.R_far (p := ⟨gb430, 5, none⟩) (Kd.R_far (p := ⟨gb430, 4, none⟩) (Kd.R_far (p := ⟨gb430, 3, none⟩) (Kd.R_far (p := ⟨gb430, 2, none⟩) (Kd.R_far (p := ⟨gb430, 1, none⟩) (Kd.R_far (p := ⟨gb430, 0, none⟩) (Kd.R_types (Kd.R_types HO425.out BK430.out (by decide)) BK414.out (by decide)) (fun _ hk => hk.1.2) (.int .i64 t417)) (fun _ hk => hk.1.2) (.int .i64 t418)) (fun _ hk => hk.1.2) (.int .i64 t419)) (fun _ hk => hk.1.2) (.slice Ao18 t420.length co18)) (fun _ hk => hk.1.2) (.slice Ao19 t423.length co19)) (fun _ hk => hk.1.2) (.slice Ao20 t426.length co20)) (fun _ hk => hk.2) (.int .i64 t417)) (fun _ hk => hk.2) (.int .i64 t418)) (fun _ hk => hk.2) (.int .i64 t419)) (fun _ hk => hk.2) (.slice Ao18 t420.length co18)) (fun _ hk => hk.2) (.slice Ao19 t423.length co19)) (fun _ hk => hk.2) (.slice Ao20 t426.length co20)) (fun _ hk => trivial), by (with_reducible repeat (first | apply Kd.R_alloc | apply Kd.R_drewN | apply Kd.R_drew)); exact Kd.R_mono (Kd.R_far (p := ⟨gb414, 5, none⟩) (Kd.R_far (p := ⟨gb414, 4, none⟩) (Kd.R_far (p := ⟨gb414, 3, none⟩) (Kd.R_far (p := ⟨gb414, 2, none⟩) (Kd.R_far (p := ⟨gb414, 1, none⟩) (Kd.R_far (p := ⟨gb414, 0, none⟩) (Kd.R_far (p := ⟨gb430, 5, none⟩) (Kd.R_far (p := ⟨gb430, 4, none⟩) (Kd.R_far (p := ⟨gb430, 3, none⟩) (Kd.R_far (p := ⟨gb430, 2, none⟩) (Kd.R_far (p := ⟨gb430, 1, none⟩) (Kd.R_far (p := ⟨gb430, 0, none⟩) (Kd.R_types (Kd.R_types HO428.out BK430.out (by decide)) BK414.out (by decide)) (fun _ hk => hk.1.2) (.int .i64 t417)) (fun _ hk => hk.1.2) (.int .i64 t418)) (fun _ hk => hk.1.2) (.int .i64 t419)) (fun _ hk => hk.1.2) (.slice Ao18 t420.length co18)) (fun _ hk => hk.1.2) (.slice Ao19 t423.length co19)) (fun _ hk => hk.1.2) (.slice Ao20 t426.length co20)) (fun _ hk => hk.2) (.int .i64 t417)) (fun _ hk => hk.2) (.int .i64 t418)) (fun _ hk => hk.2) (.int .i64 t419)) (fun _ hk => hk.2) (.slice Ao18 t420.length co18)) (fun _ hk => hk.2) (.slice Ao19 t423.length co19)) (fun _ hk => hk.2) (.slice Ao20 t426.length co20)) (fun _ hk => trivial), oB⟩
  ·simp only [Option.some.injEq, Prod.mk.injEq] at H
   obtain ⟨rfl, rfl, rfl, rfl, rfl, rfl, rfl⟩ := H
   go_enter Tryd.func48, Tryd.ntmps48
   go_wp2_with (first | ((with_reducible refine gate_dst (N := 2) rfl ?_); refine bx_ 2 #[.slice A0_0 l0_0.length c0_0, .int .i64 a0_1] 46 ?_; intro gb413 hg w22 hbox hb; have BK413 := Aside0.mk (hbox); have GW413 := gs_ hg; have GE413 := gs_ hg; replace HB := Aside0.mk (below_step oB hb); clear hb hbox hg) | ((with_reducible refine gate_dst (N := 4) rfl ?_); refine bx_ 4 #[.int .i64 0, .int .i64 0, .int .i64 0, .slice none 0 0, .slice none 0 0, .slice none 0 0] 64 ?_; intro gb414 hg w23 hbox hb; have BK414 := Aside0.mk (hbox); have GW414 := gs_ hg; have GE414 := gs_ hg; have NB413_414 := nl_ hg BK413; have NB414_413 := nr_ hg BK413; replace BK413 := kb_ BK413 hb; replace HB := Aside0.mk (below_step oB hb); clear hb hbox hg; have hnb24 := NB413_414.out; have hnc24 := NB414_413.out; obtain ⟨⟨_, _⟩, _, _⟩ := z2 BK413) | ((with_reducible refine gate_callee (f := 35) rfl ?_); refine gl_ 13 Tryd.func35 (impl_Walk.calls k _ _ l0_0 a0_1 a1 t415 t416 _ (kC HR0_0) HC0_0.out A3.out) ?_; rintro e w26 ⟨rfl, hb⟩; refine ⟨_, rfl, ?_⟩; replace BK413 := kb_ BK413 hb; replace BK414 := kb_ BK414 hb; replace HB := Aside0.mk (below_step oB hb); obtain ⟨⟨_, _⟩, _, _⟩ := z2 BK413) | ((with_reducible refine gate_callee (f := 67) rfl ?_); refine gl_ 23 Tryd.func67 (impl_InodeAt.calls k _ _ l0_0 a0_1 t415 t417 t418 t419 t420 t423 t426 false _ (kC HR0_0) HC0_0.out A5.out) ?_; rintro e w28 ⟨v421, v424, v427, rfl, ho0, ho1, ho2, hb⟩; refine ⟨_, rfl, ?_⟩; have HO422 := Aside0.mk (Kd.R_lower ho0 (below_size oB)); have HO425 := Aside0.mk (Kd.R_lower ho1 (below_size oB)); have HO428 := Aside0.mk (Kd.R_lower ho2 (below_size oB)); replace BK413 := kb_ BK413 hb; replace BK414 := kb_ BK414 hb; replace HB := Aside0.mk (below_step oB hb); (try clear ho1); (try clear ho2)) | ((with_reducible refine gate_dst (N := 8) rfl ?_); refine bx_ 8 #[.int .i64 0, .int .i64 0, .int .i64 0, .slice none 0 0, .slice none 0 0, .slice none 0 0] 64 ?_; intro gb430 hg w29 hbox hb; have BK430 := Aside0.mk (hbox); have GW430 := gs_ hg; have GE430 := gs_ hg; have NB413_430 := nl_ hg BK413; have NB430_413 := nr_ hg BK413; have NB414_430 := nl_ hg BK414; have NB430_414 := nr_ hg BK414; replace HO422 := kr_ HO422 hb; replace HO425 := kr_ HO425 hb; replace HO428 := kr_ HO428 hb; replace BK413 := kb_ BK413 hb; replace BK414 := kb_ BK414 hb; replace HB := Aside0.mk (below_step oB hb); clear hb hbox hg; have hnb30 := NB430_413.out; have hnc30 := NB413_430.out; have hnb31 := NB430_414.out; have hnc31 := NB414_430.out; obtain ⟨⟨_, _, _, _, _, _⟩, _, _, _, _, _, _⟩ := z6 BK430; obtain ⟨Ao33, co33, eo33⟩ := Kd.R_slice HO422.out; subst eo33; obtain ⟨Ao34, co34, eo34⟩ := Kd.R_slice HO425.out; subst eo34; obtain ⟨Ao35, co35, eo35⟩ := Kd.R_slice HO428.out; subst eo35; obtain ⟨⟨_, _, _, _, _, _⟩, _, _, _, _, _, _⟩ := z6 BK414))
   refine bodyPost_ret (results_ct rfl _ _ gb414 64 #[.int .i64 0, .int .i64 0, .int .i64 0, .slice none 0 0, .slice none 0 0, .slice none 0 0] (0, 0) _ rfl (by (with_reducible repeat (first | refine blk_drewN ?_ _ | refine blk_drew ?_ | refine blk_alloc ?_ _)); refine blk_put (cs := #[.int .i64 0, .int .i64 0, .int .i64 0, .slice none 0 0, .slice none 0 0, .slice none 0 0]) ?_ 5 _ rfl; (with_reducible repeat (first | refine blk_drewN ?_ _ | refine blk_drew ?_ | refine blk_alloc ?_ _)); refine blk_put (cs := #[.int .i64 0, .int .i64 0, .int .i64 0, .slice none 0 0, .slice none 0 0, .slice none 0 0]) ?_ 4 _ rfl; (with_reducible repeat (first | refine blk_drewN ?_ _ | refine blk_drew ?_ | refine blk_alloc ?_ _)); refine blk_put (cs := #[.int .i64 0, .int .i64 0, .int .i64 0, .slice none 0 0, .slice none 0 0, .slice none 0 0]) ?_ 3 _ rfl; (with_reducible repeat (first | refine blk_drewN ?_ _ | refine blk_drew ?_ | refine blk_alloc ?_ _)); refine blk_put (cs := #[.int .i64 0, .int .i64 0, .int .i64 0, .slice none 0 0, .slice none 0 0, .slice none 0 0]) ?_ 2 _ rfl; (with_reducible repeat (first | refine blk_drewN ?_ _ | refine blk_drew ?_ | refine blk_alloc ?_ _)); refine blk_put (cs := #[.int .i64 0, .int .i64 0, .int .i64 0, .slice none 0 0, .slice none 0 0, .slice none 0 0]) ?_ 1 _ rfl; (with_reducible repeat (first | refine blk_drewN ?_ _ | refine blk_drew ?_ | refine blk_alloc ?_ _)); refine blk_put (cs := #[.int .i64 0, .int .i64 0, .int .i64 0, .slice none 0 0, .slice none 0 0, .slice none 0 0]) ?_ 0 _ rfl; (with_reducible repeat (first | refine blk_drewN ?_ _ | refine blk_drew ?_ | refine blk_alloc ?_ _)); refine blk_far ?_ NB414_430.out _; (with_reducible repeat (first | refine blk_drewN ?_ _ | refine blk_drew ?_ | refine blk_alloc ?_ _)); refine blk_far ?_ NB414_430.out _; (with_reducible repeat (first | refine blk_drewN ?_ _ | refine blk_drew ?_ | refine blk_alloc ?_ _)); refine blk_far ?_ NB414_430.out _; (with_reducible repeat (first | refine blk_drewN ?_ _ | refine blk_drew ?_ | refine blk_alloc ?_ _)); refine blk_far ?_ NB414_430.out _; (with_reducible repeat (first | refine blk_drewN ?_ _ | refine blk_drew ?_ | refine blk_alloc ?_ _)); refine blk_far ?_ NB414_430.out _; (with_reducible repeat (first | refine blk_drewN ?_ _ | refine blk_drew ?_ | refine blk_alloc ?_ _)); refine blk_far ?_ NB414_430.out _; (with_reducible repeat (first | refine blk_drewN ?_ _ | refine blk_drew ?_ | refine blk_alloc ?_ _)); exact BK414.out) Tryd.underlying64 rfl (by kernel_rfl)) rfl ?_
   exact ⟨_, _, _, oE, by first | exact Kd.R_nil _ _ _ _ _ | exact Kd.N_nil _ _ _ _ _ | exact Kd.V_nil _ _ _ _ _ | exact Kd.Q_nil _ _ _ _ _ | exact Kd.S_nil _ _ _ _ _, by first | exact Kd.R_nil _ _ _ _ _ | exact Kd.N_nil _ _ _ _ _ | exact Kd.V_nil _ _ _ _ _ | exact Kd.Q_nil _ _ _ _ _ | exact Kd.S_nil _ _ _ _ _, by first | exact Kd.R_nil _ _ _ _ _ | exact Kd.N_nil _ _ _ _ _ | exact Kd.V_nil _ _ _ _ _ | exact Kd.Q_nil _ _ _ _ _ | exact Kd.S_nil _ _ _ _ _, oB⟩
 ·rw [if_neg c4] at H
  have c4b0 : (t416 == 0) = false := beq_eq_false_iff_ne.mpr c4
  have c4b1 : (t416 != 0) = true := bne_iff_ne.mpr c4
  simp only [Option.some.injEq, Prod.mk.injEq] at H
  obtain ⟨rfl, rfl, rfl, rfl, rfl, rfl, rfl⟩ := H
  go_enter Tryd.func48, Tryd.ntmps48
  go_wp2_with (first | ((with_reducible refine gate_dst (N := 2) rfl ?_); refine bx_ 2 #[.slice A0_0 l0_0.length c0_0, .int .i64 a0_1] 46 ?_; intro gb413 hg w37 hbox hb; have BK413 := Aside0.mk (hbox); have GW413 := gs_ hg; have GE413 := gs_ hg; replace HB := Aside0.mk (below_step oB hb); clear hb hbox hg) | ((with_reducible refine gate_dst (N := 4) rfl ?_); refine bx_ 4 #[.int .i64 0, .int .i64 0, .int .i64 0, .slice none 0 0, .slice none 0 0, .slice none 0 0] 64 ?_; intro gb414 hg w38 hbox hb; have BK414 := Aside0.mk (hbox); have GW414 := gs_ hg; have GE414 := gs_ hg; have NB413_414 := nl_ hg BK413; have NB414_413 := nr_ hg BK413; replace BK413 := kb_ BK413 hb; replace HB := Aside0.mk (below_step oB hb); clear hb hbox hg; have hnb39 := NB413_414.out; have hnc39 := NB414_413.out; obtain ⟨⟨_, _⟩, _, _⟩ := z2 BK413) | ((with_reducible refine gate_callee (f := 35) rfl ?_); refine gl_ 13 Tryd.func35 (impl_Walk.calls k _ _ l0_0 a0_1 a1 t415 t416 _ (kC HR0_0) HC0_0.out A3.out) ?_; rintro e w41 ⟨rfl, hb⟩; refine ⟨_, rfl, ?_⟩; replace BK413 := kb_ BK413 hb; replace BK414 := kb_ BK414 hb; replace HB := Aside0.mk (below_step oB hb); obtain ⟨⟨_, _, _, _, _, _⟩, _, _, _, _, _, _⟩ := z6 BK414))
  refine bodyPost_ret (results_ct rfl _ _ gb414 64 #[.int .i64 0, .int .i64 0, .int .i64 0, .slice none 0 0, .slice none 0 0, .slice none 0 0] (0, 0) _ rfl (by (with_reducible repeat (first | refine blk_drewN ?_ _ | refine blk_drew ?_ | refine blk_alloc ?_ _)); refine blk_put (cs := #[.int .i64 0, .int .i64 0, .int .i64 0, .slice none 0 0, .slice none 0 0, .slice none 0 0]) ?_ 5 _ rfl; (with_reducible repeat (first | refine blk_drewN ?_ _ | refine blk_drew ?_ | refine blk_alloc ?_ _)); refine blk_put (cs := #[.int .i64 0, .int .i64 0, .int .i64 0, .slice none 0 0, .slice none 0 0, .slice none 0 0]) ?_ 4 _ rfl; (with_reducible repeat (first | refine blk_drewN ?_ _ | refine blk_drew ?_ | refine blk_alloc ?_ _)); refine blk_put (cs := #[.int .i64 0, .int .i64 0, .int .i64 0, .slice none 0 0, .slice none 0 0, .slice none 0 0]) ?_ 3 _ rfl; (with_reducible repeat (first | refine blk_drewN ?_ _ | refine blk_drew ?_ | refine blk_alloc ?_ _)); refine blk_put (cs := #[.int .i64 0, .int .i64 0, .int .i64 0, .slice none 0 0, .slice none 0 0, .slice none 0 0]) ?_ 2 _ rfl; (with_reducible repeat (first | refine blk_drewN ?_ _ | refine blk_drew ?_ | refine blk_alloc ?_ _)); refine blk_put (cs := #[.int .i64 0, .int .i64 0, .int .i64 0, .slice none 0 0, .slice none 0 0, .slice none 0 0]) ?_ 1 _ rfl; (with_reducible repeat (first | refine blk_drewN ?_ _ | refine blk_drew ?_ | refine blk_alloc ?_ _)); refine blk_put (cs := #[.int .i64 0, .int .i64 0, .int .i64 0, .slice none 0 0, .slice none 0 0, .slice none 0 0]) ?_ 0 _ rfl; (with_reducible repeat (first | refine blk_drewN ?_ _ | refine blk_drew ?_ | refine blk_alloc ?_ _)); exact BK414.out) Tryd.underlying64 rfl (by kernel_rfl)) rfl ?_
  exact ⟨_, _, _, oE, by first | exact Kd.R_nil _ _ _ _ _ | exact Kd.N_nil _ _ _ _ _ | exact Kd.V_nil _ _ _ _ _ | exact Kd.Q_nil _ _ _ _ _ | exact Kd.S_nil _ _ _ _ _, by first | exact Kd.R_nil _ _ _ _ _ | exact Kd.N_nil _ _ _ _ _ | exact Kd.V_nil _ _ _ _ _ | exact Kd.Q_nil _ _ _ _ _ | exact Kd.S_nil _ _ _ _ _, by first | exact Kd.R_nil _ _ _ _ _ | exact Kd.N_nil _ _ _ _ _ | exact Kd.V_nil _ _ _ _ _ | exact Kd.Q_nil _ _ _ _ _ | exact Kd.S_nil _ _ _ _ _, oB⟩

/-! ### impl_List: function 46 -/
def impl_List.l0 : Nat → List ByteArray → List (S91) → Int → Int → Option (List ByteArray × Int)
 | 0, _, _, _, _ => none
 | k + 1, x8, x25, x26, x27 => if x27 < x26 then (if 0 ≤ x27 then (if x27 < (x25.length : Int) then (if x8.length < 8796093022208 then (impl_List.l0 k (x8 ++ [(rd_T91 x25 x27).f0]) x25 x26 (wrap64 (x27 + 1))) else (none)) else (none)) else (none)) else (some (x8, 0))
def impl_List.f (k : Nat) (l0_0 : List (S64)) (a0_1 : Int) (a1 : ByteArray) : Option (List ByteArray × Int) := (impl_Stat.f k l0_0 a0_1 a1).bind fun bt432 => (if bt432.2.2.2.2.2.2 = 0 then (if bt432.2.1 = 2 then (impl_List.l0 k (([] : List ByteArray)) bt432.2.2.2.2.1 (bt432.2.2.2.2.1.length : Int) 0) else (some (([] : List ByteArray), 3))) else (some (([] : List ByteArray), bt432.2.2.2.2.2.2)))
set_option maxHeartbeats 8000000 in
set_option maxRecDepth 100000 in
theorem impl_List.calls (k : Nat) (A0_0 : Option Addr) (c0_0 : Nat) (l0_0 : List (S64)) (a0_1 : Int) (a1 : ByteArray) (r1 : List ByteArray) (r2 : Int) (w : World) (hr0_0 : Kd.C k64 w A0_0 l0_0.length l0_0) (hc0_0 : l0_0.length ≤ c0_0) (h : impl_List.f k l0_0 a0_1 a1 = some (r1, r2)) (hG : GOk w := by exact gk_ oB (by first | (with_reducible assumption) | assumption)) :
  Calls Tryd.prog 46 #[.agg #[.slice A0_0 l0_0.length c0_0, .int .i64 a0_1], .string a1] w fun e w' => ∃ v0_ : Value, e = .returned (.tuple #[v0_, .int .i64 r2]) ∧ Kd.R Kd.string 9 w' w.heap.size (fun _ => True) v0_ r1 ∧ Below w.heap.size w w' := by
 have HG := Aside0.mk hG
 clear hG
 have hu46 := Tryd.underlying46
 have hu64 := Tryd.underlying64
 have hu91 := Tryd.underlying91
 have HR0_0 := Aside0.mk hr0_0
 have HC0_0 := Aside0.mk hc0_0
 clear hr0_0 hc0_0
 have HB := Aside0.mk (Below.refl w.heap.size w)
 unfold impl_List.f at h
 have H := h
 clear h
 replace H := bA H
 obtain ⟨⟨t432, t433, t434, t435, t438, t441, t444⟩, A3, H⟩ := H
 try dsimp only at H
 by_cases c4 : t444 = 0
 ·rw [if_pos c4] at H
  have c4b0 : (t444 == 0) = true := beq_iff_eq.mpr c4
  have c4b1 : (t444 != 0) = false := bne_eq_false_iff_eq.mpr c4
  clear c4
  by_cases c5 : t433 = 2
  ·rw [if_pos c5] at H
   have c5b0 : (t433 == 2) = true := beq_iff_eq.mpr c5
   have c5b1 : (t433 != 2) = false := bne_eq_false_iff_eq.mpr c5
   clear c5
   obtain ⟨y446, hy446⟩ : ∃ y_ : List ByteArray, y_ = (([] : List ByteArray)) := ⟨_, rfl⟩
   replace H : (impl_List.l0 k y446 t438 (t438.length : Int) 0) = some (r1, r2) := by first | (rw [hy446]; with_reducible exact H) | (have H2_ := (Option.bind_some _ _).symm.trans H; rw [hy446]; with_reducible exact H2_) | (have H2_ := (Option.bind_some _ _).symm.trans H; with_reducible exact H2_) | with_reducible exact H | (rw [hy446]; exact H) | exact H
   have Ny446 := Aside0.mk hy446
   clear hy446
   have H' := Aside0.mk H
   clear H
   go_enter Tryd.func46, Tryd.ntmps46
   go_wp2_with (first | ((with_reducible refine gate_dst (N := 2) rfl ?_); refine bx_ 2 #[.slice A0_0 l0_0.length c0_0, .int .i64 a0_1] 46 ?_; intro gb431 hg w6 hbox hb; have BK431 := Aside0.mk (hbox); have GW431 := gs_ hg; have GE431 := gs_ hg; replace HB := Aside0.mk (below_step oB hb); clear hb hbox hg; obtain ⟨⟨_, _⟩, _, _⟩ := z2 BK431) | ((with_reducible refine gate_callee (f := 48) rfl ?_); refine gl_ 14 Tryd.func48 (impl_Stat.calls k _ _ l0_0 a0_1 a1 t432 t433 t434 t435 t438 t441 t444 _ (kC HR0_0) HC0_0.out A3.out) ?_; rintro e w8 ⟨v436, v439, v442, rfl, ho0, ho1, ho2, hb⟩; refine ⟨_, rfl, ?_⟩; have HO437 := Aside0.mk (Kd.R_lower ho0 (below_size oB)); have HO440 := Aside0.mk (Kd.R_lower ho1 (below_size oB)); have HO443 := Aside0.mk (Kd.R_lower ho2 (below_size oB)); replace BK431 := kb_ BK431 hb; replace HB := Aside0.mk (below_step oB hb); (try clear ho1); (try clear ho2)) | ((with_reducible refine gate_dst (N := 6) rfl ?_); refine bx_ 6 #[.int .i64 0, .int .i64 0, .int .i64 0, .slice none 0 0, .slice none 0 0, .slice none 0 0] 64 ?_; intro gb445 hg w9 hbox hb; have BK445 := Aside0.mk (hbox); have GW445 := gs_ hg; have GE445 := gs_ hg; have NB431_445 := nl_ hg BK431; have NB445_431 := nr_ hg BK431; replace HO437 := kr_ HO437 hb; replace HO440 := kr_ HO440 hb; replace HO443 := kr_ HO443 hb; replace BK431 := kb_ BK431 hb; replace HB := Aside0.mk (below_step oB hb); clear hb hbox hg; have hnb10 := NB445_431.out; have hnc10 := NB431_445.out; obtain ⟨⟨_, _, _, _, _, _⟩, _, _, _, _, _, _⟩ := z6 BK445; obtain ⟨Ao12, co12, eo12⟩ := Kd.R_slice HO437.out; subst eo12; obtain ⟨Ao13, co13, eo13⟩ := Kd.R_slice HO440.out; subst eo13; obtain ⟨Ao14, co14, eo14⟩ := Kd.R_slice HO443.out; subst eo14) | ((with_reducible refine gate_dst (N := 23) rfl ?_); refine Kd.R_lit Kd.string _ 9 ?hg (N := 23) ?hd (xs := ([] : List ByteArray)) (inner := []) (ok := fun _ => True) (okp := fun _ => True) ?hr ?hp (fun _ hk => hk) trivial (Below.refl _ _) (Nat.le_refl _) (by simp) ?_; (case hd => rfl); (case hg => rfl); (case hr => first | (go_simp; done) | (go_simp; rfl)); (case hp => exact (Reps.none _ _)); intro v447 w15 ho16 hb hg_ hnew_; clear hg_ hnew_; (first | rw [← Ny446.out] at ho16 | (simp only [Int.reduceToNat] at ho16; rw [← Ny446.out] at ho16)); have HO448 := Aside0.mk (Kd.R_lower ho16 (below_size oB)); replace HO437 := Aside0.mk (Kd.R_below (by (with_reducible repeat (first | apply Kd.R_alloc | apply Kd.R_drewN | apply Kd.R_drew)); exact (Kd.R_mono (Kd.R_far (p := ⟨gb445, 5, none⟩) (Kd.R_far (p := ⟨gb445, 4, none⟩) (Kd.R_far (p := ⟨gb445, 3, none⟩) (Kd.R_far (p := ⟨gb445, 2, none⟩) (Kd.R_far (p := ⟨gb445, 1, none⟩) (Kd.R_far (p := ⟨gb445, 0, none⟩) (Kd.R_types HO437.out BK445.out (by decide)) (fun _ hk => hk.2) (.int .i64 t432)) (fun _ hk => hk.2) (.int .i64 t433)) (fun _ hk => hk.2) (.int .i64 t434)) (fun _ hk => hk.2) (.slice Ao12 t435.length co12)) (fun _ hk => hk.2) (.slice Ao13 t438.length co13)) (fun _ hk => hk.2) (.slice Ao14 t441.length co14)) (fun _ h_ => h_.1))) hb); replace HO440 := Aside0.mk (Kd.R_below (by (with_reducible repeat (first | apply Kd.R_alloc | apply Kd.R_drewN | apply Kd.R_drew)); exact (Kd.R_mono (Kd.R_far (p := ⟨gb445, 5, none⟩) (Kd.R_far (p := ⟨gb445, 4, none⟩) (Kd.R_far (p := ⟨gb445, 3, none⟩) (Kd.R_far (p := ⟨gb445, 2, none⟩) (Kd.R_far (p := ⟨gb445, 1, none⟩) (Kd.R_far (p := ⟨gb445, 0, none⟩) (Kd.R_types HO440.out BK445.out (by decide)) (fun _ hk => hk.2) (.int .i64 t432)) (fun _ hk => hk.2) (.int .i64 t433)) (fun _ hk => hk.2) (.int .i64 t434)) (fun _ hk => hk.2) (.slice Ao12 t435.length co12)) (fun _ hk => hk.2) (.slice Ao13 t438.length co13)) (fun _ hk => hk.2) (.slice Ao14 t441.length co14)) (fun _ h_ => h_.1))) hb); replace HO443 := Aside0.mk (Kd.R_below (by (with_reducible repeat (first | apply Kd.R_alloc | apply Kd.R_drewN | apply Kd.R_drew)); exact (Kd.R_mono (Kd.R_far (p := ⟨gb445, 5, none⟩) (Kd.R_far (p := ⟨gb445, 4, none⟩) (Kd.R_far (p := ⟨gb445, 3, none⟩) (Kd.R_far (p := ⟨gb445, 2, none⟩) (Kd.R_far (p := ⟨gb445, 1, none⟩) (Kd.R_far (p := ⟨gb445, 0, none⟩) (Kd.R_types HO443.out BK445.out (by decide)) (fun _ hk => hk.2) (.int .i64 t432)) (fun _ hk => hk.2) (.int .i64 t433)) (fun _ hk => hk.2) (.int .i64 t434)) (fun _ hk => hk.2) (.slice Ao12 t435.length co12)) (fun _ hk => hk.2) (.slice Ao13 t438.length co13)) (fun _ hk => hk.2) (.slice Ao14 t441.length co14)) (fun _ h_ => h_.1))) hb); replace BK431 := Aside0.mk (blk_below (g := gb431) (o := .cells #[.slice A0_0 l0_0.length c0_0, .int .i64 a0_1] 46 (0, 0)) (by (with_reducible repeat (first | refine blk_drewN ?_ _ | refine blk_drew ?_ | refine blk_alloc ?_ _)); refine blk_far ?_ NB431_445.out _; (with_reducible repeat (first | refine blk_drewN ?_ _ | refine blk_drew ?_ | refine blk_alloc ?_ _)); refine blk_far ?_ NB431_445.out _; (with_reducible repeat (first | refine blk_drewN ?_ _ | refine blk_drew ?_ | refine blk_alloc ?_ _)); refine blk_far ?_ NB431_445.out _; (with_reducible repeat (first | refine blk_drewN ?_ _ | refine blk_drew ?_ | refine blk_alloc ?_ _)); refine blk_far ?_ NB431_445.out _; (with_reducible repeat (first | refine blk_drewN ?_ _ | refine blk_drew ?_ | refine blk_alloc ?_ _)); refine blk_far ?_ NB431_445.out _; (with_reducible repeat (first | refine blk_drewN ?_ _ | refine blk_drew ?_ | refine blk_alloc ?_ _)); refine blk_far ?_ NB431_445.out _; (with_reducible repeat (first | refine blk_drewN ?_ _ | refine blk_drew ?_ | refine blk_alloc ?_ _)); exact BK431.out) hb); replace BK445 := Aside0.mk (blk_below (g := gb445) (o := .cells #[.int .i64 t432, .int .i64 t433, .int .i64 t434, .slice Ao12 t435.length co12, .slice Ao13 t438.length co13, .slice Ao14 t441.length co14] 64 (0, 0)) (by (with_reducible repeat (first | refine blk_drewN ?_ _ | refine blk_drew ?_ | refine blk_alloc ?_ _)); refine blk_put (cs := #[.int .i64 t432, .int .i64 t433, .int .i64 t434, .slice Ao12 t435.length co12, .slice Ao13 t438.length co13, .slice none 0 0]) ?_ 5 _ rfl; (with_reducible repeat (first | refine blk_drewN ?_ _ | refine blk_drew ?_ | refine blk_alloc ?_ _)); refine blk_put (cs := #[.int .i64 t432, .int .i64 t433, .int .i64 t434, .slice Ao12 t435.length co12, .slice none 0 0, .slice none 0 0]) ?_ 4 _ rfl; (with_reducible repeat (first | refine blk_drewN ?_ _ | refine blk_drew ?_ | refine blk_alloc ?_ _)); refine blk_put (cs := #[.int .i64 t432, .int .i64 t433, .int .i64 t434, .slice none 0 0, .slice none 0 0, .slice none 0 0]) ?_ 3 _ rfl; (with_reducible repeat (first | refine blk_drewN ?_ _ | refine blk_drew ?_ | refine blk_alloc ?_ _)); refine blk_put (cs := #[.int .i64 t432, .int .i64 t433, .int .i64 0, .slice none 0 0, .slice none 0 0, .slice none 0 0]) ?_ 2 _ rfl; (with_reducible repeat (first | refine blk_drewN ?_ _ | refine blk_drew ?_ | refine blk_alloc ?_ _)); refine blk_put (cs := #[.int .i64 t432, .int .i64 0, .int .i64 0, .slice none 0 0, .slice none 0 0, .slice none 0 0]) ?_ 1 _ rfl; (with_reducible repeat (first | refine blk_drewN ?_ _ | refine blk_drew ?_ | refine blk_alloc ?_ _)); refine blk_put (cs := #[.int .i64 0, .int .i64 0, .int .i64 0, .slice none 0 0, .slice none 0 0, .slice none 0 0]) ?_ 0 _ rfl; (with_reducible repeat (first | refine blk_drewN ?_ _ | refine blk_drew ?_ | refine blk_alloc ?_ _)); exact BK445.out) hb); replace HB := Aside0.mk (below_step oB hb); clear hb ho16; obtain ⟨⟨_, _, _, _, _, _⟩, _, _, _, _, _, _⟩ := z6 BK445))
   go_loopg [8, 27] k (fun kq v8 v27 w' => ∃ (x8_1 : List ByteArray) (x27_1 : Int), v27 = .int .i64 x27_1 ∧ Aside0 (impl_List.l0 kq x8_1 t438 (t438.length : Int) x27_1 = some (r1, r2)) ∧ Aside0 (kq ≤ k) ∧ Aside0 (Kd.R Kd.string 9 w' w.heap.size (fun _ => True) v8 x8_1) ∧ Aside0 (Kd.R k91 91 w' w.heap.size (fun _ => True) (.slice Ao13 t438.length co13) t438) ∧ Aside0 (Kd.R (Kd.int .u8) 5 w' w.heap.size (fun _ => True) (.slice Ao12 t435.length co12) t435) ∧ Aside0 (Kd.R k91 91 w' w.heap.size (fun _ => True) (.slice Ao13 t438.length co13) t438) ∧ Aside0 (Kd.R k87 87 w' w.heap.size (fun _ => True) (.slice Ao14 t441.length co14) t441) ∧ Aside0 (w'.heap[gb431]? = some (.cells #[(.slice A0_0 l0_0.length c0_0), .int .i64 a0_1] 46 (0, 0))) ∧ Aside0 (w'.heap[gb445]? = some (.cells #[.int .i64 t432, .int .i64 t433, .int .i64 t434, (.slice Ao12 t435.length co12), (.slice Ao13 t438.length co13), (.slice Ao14 t441.length co14)] 64 (0, 0))) ∧ Aside0 (Below w.heap.size w w'))
   case atStart => exact ⟨(y446), (0), oS, H', ⟨Nat.le_refl _⟩, ⟨oR HO448⟩, ⟨oR HO440⟩, ⟨oR HO437⟩, ⟨oR HO440⟩, ⟨oR HO443⟩, ⟨oF BK431⟩, ⟨oF BK445⟩, ⟨oB⟩⟩
   case round =>
    clear H'
    try clear c4
    try clear c4b0
    try clear c4b1
    try clear c5
    obtain ⟨x8_1, x27_1, rfl, HA, HK1, HO_8, HO_25, HO_446003, HO_446004, HO_446005, BK431, BK445, HB⟩ := hrel
    cases gk with
    | zero => exact absurd HA.out (by simp [impl_List.l0])
    | succ k1 =>
     have H := HA.out
     clear HA
     simp only [impl_List.l0] at H
     replace H := itD H
     rcases H with ⟨c18b0, H⟩ | ⟨c18b0, H⟩
     ·replace H := itD H
      rcases H with ⟨c19b0, H⟩ | ⟨c19b0, H⟩
      ·replace H := itD H
       rcases H with ⟨c20b0, H⟩ | ⟨c20b0, H⟩
       ·by_cases c21 : x8_1.length < 8796093022208
        ·rw [if_pos c21] at H
         have LMc21 := Aside0.mk c21
         clear c21
         obtain ⟨y451, hy451⟩ : ∃ y_ : List ByteArray, y_ = (x8_1 ++ [(rd_T91 t438 x27_1).f0]) := ⟨_, rfl⟩
         replace H : (impl_List.l0 k1 y451 t438 (t438.length : Int) (wrap64 (x27_1 + 1))) = some (r1, r2) := by first | (rw [hy451]; with_reducible exact H) | (have H2_ := (Option.bind_some _ _).symm.trans H; rw [hy451]; with_reducible exact H2_) | (have H2_ := (Option.bind_some _ _).symm.trans H; with_reducible exact H2_) | with_reducible exact H | (rw [hy451]; exact H) | exact H
         have Ny451 := Aside0.mk hy451
         clear hy451
         have H' := Aside0.mk H
         clear H
         have p449 : (0 ≤ (x27_1 : Int)) = True := oT
         have q449 : (x27_1 < (t438.length : Int)) = True := oT
         obtain ⟨ad449, e449, hx449_0, hx449_1⟩ := at_T91 (Kd.R_reads' HO_25.out).2.2 x27_1 oa oa
         cases e449
         go_wp2_with (first | ((with_reducible refine gate_dst (N := 10) rfl ?_); refine bx_ 10 #[.string (⟨#[]⟩ : ByteArray), .int .i64 0] 91 ?_; intro gb450 hg w22 hbox hb; have BK450 := Aside0.mk (hbox); have GW450 := gs_ hg; have GE450 := gs_ hg; have NB431_450 := nl_ hg BK431; have NB450_431 := nr_ hg BK431; have NB445_450 := nl_ hg BK445; have NB450_445 := nr_ hg BK445; replace HO_8 := kr_ HO_8 hb; replace HO_25 := Aside0.mk (Kd.R_below (Kd.R_elderB (oR HO_25) gb450 (Nat.le_of_eq hg.symm)) hb); replace HO_446003 := kr_ HO_446003 hb; replace HO_446004 := Aside0.mk (Kd.R_below (Kd.R_elderB (oR HO_446004) gb450 (Nat.le_of_eq hg.symm)) hb); replace HO_446005 := kr_ HO_446005 hb; replace BK431 := kb_ BK431 hb; replace BK445 := kb_ BK445 hb; replace HB := Aside0.mk (below_step oB hb); clear hb hbox hg; have hnb23 := NB450_431.out; have hnc23 := NB431_450.out; have hnb24 := NB450_445.out; have hnc24 := NB445_450.out; obtain ⟨⟨_, _⟩, _, _⟩ := z2 BK450) | ((with_reducible refine gate_builtin (b := .append) (xs := #[.tmp 31, .tmp 34]) rfl ?_); at_builtin; refine Kd.R_append Kd.string (w0 := w) w.heap.size rfl (.tmp 31) (.tmp 34) 23 9 (.string ⟨#[]⟩) 16 rfl Tryd.underlying23 info9 rfl (by decide) (by omega) u8 x8_1 ((rd_T91 t438 x27_1).f0) [.string ((rd_T91 t438 x27_1).f0)] (fun _ => True) (fun _ => False) rfl (by first | (go_simp; done) | (go_simp; rfl)) ?aP (fun _ hk => hk.elim) ?aF ?aO ?aB ?aS ?aL ?_; (case aP => exact rfl); (case aB => exact oB); (case aF => exact (fun _ _ => trivial)); (case aO => exact (by (with_reducible repeat (first | apply Kd.R_alloc | apply Kd.R_drewN | apply Kd.R_drew)); exact Kd.R_mono (Kd.R_far (p := ⟨gb450, 1, none⟩) (Kd.R_far (p := ⟨gb450, 0, none⟩) (Kd.R_types HO_8.out BK450.out (by decide)) (fun _ hk => hk.2) (.string ((rd_T91 t438 x27_1).f0))) (fun _ hk => hk.2) (.int .i64 ((rd_T91 t438 x27_1).f1))) (fun _ hk => trivial))); (case aS => exact (below_size oB)); (case aL => have := LMc21.out; omega); intro v452 w26 ho hb hg hat; rw [← Ny451.out] at ho; have HO453 := Aside0.mk (ho); replace HO_25 := Aside0.mk (Kd.R_over' (by (with_reducible repeat (first | apply Kd.R_alloc | apply Kd.R_drewN | apply Kd.R_drew)); exact (Kd.R_mono (Kd.R_far (p := ⟨gb450, 1, none⟩) (Kd.R_far (p := ⟨gb450, 0, none⟩) (Kd.R_mono HO_25.out (fun k_ hk => (⟨hk, hk.2⟩ : _ ∧ k_ ≠ gb450))) (fun _ hk => hk.2) (.string ((rd_T91 t438 x27_1).f0))) (fun _ hk => hk.2) (.int .i64 ((rd_T91 t438 x27_1).f1))) (fun _ h_ => h_.1))) (Kd.R_typed (by (with_reducible repeat (first | apply Kd.R_alloc | apply Kd.R_drewN | apply Kd.R_drew)); exact (Kd.R_mono (Kd.R_far (p := ⟨gb450, 1, none⟩) (Kd.R_far (p := ⟨gb450, 0, none⟩) (Kd.R_types HO_8.out BK450.out (by decide)) (fun _ hk => hk.2) (.string ((rd_T91 t438 x27_1).f0))) (fun _ hk => hk.2) (.int .i64 ((rd_T91 t438 x27_1).f1))) (fun _ h_ => h_.1)))) (by decide) hg); replace HO_446003 := Aside0.mk (Kd.R_over' (by (with_reducible repeat (first | apply Kd.R_alloc | apply Kd.R_drewN | apply Kd.R_drew)); exact (Kd.R_mono (Kd.R_far (p := ⟨gb450, 1, none⟩) (Kd.R_far (p := ⟨gb450, 0, none⟩) (Kd.R_types HO_446003.out BK450.out (by decide)) (fun _ hk => hk.2) (.string ((rd_T91 t438 x27_1).f0))) (fun _ hk => hk.2) (.int .i64 ((rd_T91 t438 x27_1).f1))) (fun _ h_ => h_.1))) (Kd.R_typed (by (with_reducible repeat (first | apply Kd.R_alloc | apply Kd.R_drewN | apply Kd.R_drew)); exact (Kd.R_mono (Kd.R_far (p := ⟨gb450, 1, none⟩) (Kd.R_far (p := ⟨gb450, 0, none⟩) (Kd.R_types HO_8.out BK450.out (by decide)) (fun _ hk => hk.2) (.string ((rd_T91 t438 x27_1).f0))) (fun _ hk => hk.2) (.int .i64 ((rd_T91 t438 x27_1).f1))) (fun _ h_ => h_.1)))) (by decide) hg); replace HO_446004 := Aside0.mk (Kd.R_over' (by (with_reducible repeat (first | apply Kd.R_alloc | apply Kd.R_drewN | apply Kd.R_drew)); exact (Kd.R_mono (Kd.R_far (p := ⟨gb450, 1, none⟩) (Kd.R_far (p := ⟨gb450, 0, none⟩) (Kd.R_mono HO_446004.out (fun k_ hk => (⟨hk, hk.2⟩ : _ ∧ k_ ≠ gb450))) (fun _ hk => hk.2) (.string ((rd_T91 t438 x27_1).f0))) (fun _ hk => hk.2) (.int .i64 ((rd_T91 t438 x27_1).f1))) (fun _ h_ => h_.1))) (Kd.R_typed (by (with_reducible repeat (first | apply Kd.R_alloc | apply Kd.R_drewN | apply Kd.R_drew)); exact (Kd.R_mono (Kd.R_far (p := ⟨gb450, 1, none⟩) (Kd.R_far (p := ⟨gb450, 0, none⟩) (Kd.R_types HO_8.out BK450.out (by decide)) (fun _ hk => hk.2) (.string ((rd_T91 t438 x27_1).f0))) (fun _ hk => hk.2) (.int .i64 ((rd_T91 t438 x27_1).f1))) (fun _ h_ => h_.1)))) (by decide) hg); replace HO_446005 := Aside0.mk (Kd.R_over' (by (with_reducible repeat (first | apply Kd.R_alloc | apply Kd.R_drewN | apply Kd.R_drew)); exact (Kd.R_mono (Kd.R_far (p := ⟨gb450, 1, none⟩) (Kd.R_far (p := ⟨gb450, 0, none⟩) (Kd.R_types HO_446005.out BK450.out (by decide)) (fun _ hk => hk.2) (.string ((rd_T91 t438 x27_1).f0))) (fun _ hk => hk.2) (.int .i64 ((rd_T91 t438 x27_1).f1))) (fun _ h_ => h_.1))) (Kd.R_typed (by (with_reducible repeat (first | apply Kd.R_alloc | apply Kd.R_drewN | apply Kd.R_drew)); exact (Kd.R_mono (Kd.R_far (p := ⟨gb450, 1, none⟩) (Kd.R_far (p := ⟨gb450, 0, none⟩) (Kd.R_types HO_8.out BK450.out (by decide)) (fun _ hk => hk.2) (.string ((rd_T91 t438 x27_1).f0))) (fun _ hk => hk.2) (.int .i64 ((rd_T91 t438 x27_1).f1))) (fun _ h_ => h_.1)))) (by decide) hg); replace BK431 := Aside0.mk (blk_grown (g := gb431) (o := .cells #[.slice A0_0 l0_0.length c0_0, .int .i64 a0_1] 46 (0, 0)) (by (with_reducible repeat (first | refine blk_drewN ?_ _ | refine blk_drew ?_ | refine blk_alloc ?_ _)); refine blk_far ?_ NB431_450.out _; (with_reducible repeat (first | refine blk_drewN ?_ _ | refine blk_drew ?_ | refine blk_alloc ?_ _)); refine blk_far ?_ NB431_450.out _; (with_reducible repeat (first | refine blk_drewN ?_ _ | refine blk_drew ?_ | refine blk_alloc ?_ _)); exact BK431.out) hg (Kd.R_ne HO_8.out BK431.out (by decide))); replace BK445 := Aside0.mk (blk_grown (g := gb445) (o := .cells #[.int .i64 t432, .int .i64 t433, .int .i64 t434, .slice Ao12 t435.length co12, .slice (some ad449) t438.length co13, .slice Ao14 t441.length co14] 64 (0, 0)) (by (with_reducible repeat (first | refine blk_drewN ?_ _ | refine blk_drew ?_ | refine blk_alloc ?_ _)); refine blk_far ?_ NB445_450.out _; (with_reducible repeat (first | refine blk_drewN ?_ _ | refine blk_drew ?_ | refine blk_alloc ?_ _)); refine blk_far ?_ NB445_450.out _; (with_reducible repeat (first | refine blk_drewN ?_ _ | refine blk_drew ?_ | refine blk_alloc ?_ _)); exact BK445.out) hg (Kd.R_ne HO_8.out BK445.out (by decide))); replace BK450 := Aside0.mk (blk_grown (g := gb450) (o := .cells #[.string ((rd_T91 t438 x27_1).f0), .int .i64 ((rd_T91 t438 x27_1).f1)] 91 (0, 0)) (by (with_reducible repeat (first | refine blk_drewN ?_ _ | refine blk_drew ?_ | refine blk_alloc ?_ _)); refine blk_put (cs := #[.string ((rd_T91 t438 x27_1).f0), .int .i64 0]) ?_ 1 _ rfl; (with_reducible repeat (first | refine blk_drewN ?_ _ | refine blk_drew ?_ | refine blk_alloc ?_ _)); refine blk_put (cs := #[.string (⟨#[]⟩ : ByteArray), .int .i64 0]) ?_ 0 _ rfl; (with_reducible repeat (first | refine blk_drewN ?_ _ | refine blk_drew ?_ | refine blk_alloc ?_ _)); exact BK450.out) hg (Kd.R_ne HO_8.out BK450.out (by decide))); replace HB := Aside0.mk (hb); clear HO_8; clear ho hb hg hat))
         go_roundg k1
         case measure => have := HK1.out; omega
         case rel => exact ⟨(y451), (wrap64 (x27_1 + 1)), oS, H', ⟨by have := HK1.out; omega⟩, ⟨oR HO453⟩, ⟨by (with_reducible repeat (first | apply Kd.R_alloc | apply Kd.R_drewN | apply Kd.R_drew)); exact Kd.R_mono HO_25.out (fun _ hk => trivial)⟩, ⟨oR HO_446003⟩, ⟨by (with_reducible repeat (first | apply Kd.R_alloc | apply Kd.R_drewN | apply Kd.R_drew)); exact Kd.R_mono HO_446004.out (fun _ hk => trivial)⟩, ⟨oR HO_446005⟩, ⟨oF BK431⟩, ⟨oF BK445⟩, ⟨oB⟩⟩
        ·rw [if_neg c21] at H
         exact absurd H (by simp)
       ·cases H
      ·cases H
     ·simp only [Option.some.injEq, Prod.mk.injEq] at H
      obtain ⟨rfl, rfl⟩ := H
      go_wp2
      go_ret2
      exact ⟨_, oE, oR HO_8, oB⟩
  ·rw [if_neg c5] at H
   have c5b0 : (t433 == 2) = false := beq_eq_false_iff_ne.mpr c5
   have c5b1 : (t433 != 2) = true := bne_iff_ne.mpr c5
   simp only [Option.some.injEq, Prod.mk.injEq] at H
   obtain ⟨rfl, rfl⟩ := H
   go_enter Tryd.func46, Tryd.ntmps46
   go_wp2_with (first | ((with_reducible refine gate_dst (N := 2) rfl ?_); refine bx_ 2 #[.slice A0_0 l0_0.length c0_0, .int .i64 a0_1] 46 ?_; intro gb431 hg w27 hbox hb; have BK431 := Aside0.mk (hbox); have GW431 := gs_ hg; have GE431 := gs_ hg; replace HB := Aside0.mk (below_step oB hb); clear hb hbox hg; obtain ⟨⟨_, _⟩, _, _⟩ := z2 BK431) | ((with_reducible refine gate_callee (f := 48) rfl ?_); refine gl_ 14 Tryd.func48 (impl_Stat.calls k _ _ l0_0 a0_1 a1 t432 t433 t434 t435 t438 t441 t444 _ (kC HR0_0) HC0_0.out A3.out) ?_; rintro e w29 ⟨v436, v439, v442, rfl, ho0, ho1, ho2, hb⟩; refine ⟨_, rfl, ?_⟩; have HO437 := Aside0.mk (Kd.R_lower ho0 (below_size oB)); have HO440 := Aside0.mk (Kd.R_lower ho1 (below_size oB)); have HO443 := Aside0.mk (Kd.R_lower ho2 (below_size oB)); replace BK431 := kb_ BK431 hb; replace HB := Aside0.mk (below_step oB hb); (try clear ho1); (try clear ho2)) | ((with_reducible refine gate_dst (N := 6) rfl ?_); refine bx_ 6 #[.int .i64 0, .int .i64 0, .int .i64 0, .slice none 0 0, .slice none 0 0, .slice none 0 0] 64 ?_; intro gb445 hg w30 hbox hb; have BK445 := Aside0.mk (hbox); have GW445 := gs_ hg; have GE445 := gs_ hg; have NB431_445 := nl_ hg BK431; have NB445_431 := nr_ hg BK431; replace HO437 := kr_ HO437 hb; replace HO440 := kr_ HO440 hb; replace HO443 := kr_ HO443 hb; replace BK431 := kb_ BK431 hb; replace HB := Aside0.mk (below_step oB hb); clear hb hbox hg; have hnb31 := NB445_431.out; have hnc31 := NB431_445.out; obtain ⟨⟨_, _, _, _, _, _⟩, _, _, _, _, _, _⟩ := z6 BK445; obtain ⟨Ao33, co33, eo33⟩ := Kd.R_slice HO437.out; subst eo33; obtain ⟨Ao34, co34, eo34⟩ := Kd.R_slice HO440.out; subst eo34; obtain ⟨Ao35, co35, eo35⟩ := Kd.R_slice HO443.out; subst eo35))
   go_ret2
   exact ⟨_, oE, by first | exact Kd.R_nil _ _ _ _ _ | exact Kd.N_nil _ _ _ _ _ | exact Kd.V_nil _ _ _ _ _ | exact Kd.Q_nil _ _ _ _ _ | exact Kd.S_nil _ _ _ _ _, oB⟩
 ·rw [if_neg c4] at H
  have c4b0 : (t444 == 0) = false := beq_eq_false_iff_ne.mpr c4
  have c4b1 : (t444 != 0) = true := bne_iff_ne.mpr c4
  simp only [Option.some.injEq, Prod.mk.injEq] at H
  obtain ⟨rfl, rfl⟩ := H
  go_enter Tryd.func46, Tryd.ntmps46
  go_wp2_with (first | ((with_reducible refine gate_dst (N := 2) rfl ?_); refine bx_ 2 #[.slice A0_0 l0_0.length c0_0, .int .i64 a0_1] 46 ?_; intro gb431 hg w36 hbox hb; have BK431 := Aside0.mk (hbox); have GW431 := gs_ hg; have GE431 := gs_ hg; replace HB := Aside0.mk (below_step oB hb); clear hb hbox hg; obtain ⟨⟨_, _⟩, _, _⟩ := z2 BK431) | ((with_reducible refine gate_callee (f := 48) rfl ?_); refine gl_ 14 Tryd.func48 (impl_Stat.calls k _ _ l0_0 a0_1 a1 t432 t433 t434 t435 t438 t441 t444 _ (kC HR0_0) HC0_0.out A3.out) ?_; rintro e w38 ⟨v436, v439, v442, rfl, ho0, ho1, ho2, hb⟩; refine ⟨_, rfl, ?_⟩; have HO437 := Aside0.mk (Kd.R_lower ho0 (below_size oB)); have HO440 := Aside0.mk (Kd.R_lower ho1 (below_size oB)); have HO443 := Aside0.mk (Kd.R_lower ho2 (below_size oB)); replace BK431 := kb_ BK431 hb; replace HB := Aside0.mk (below_step oB hb); (try clear ho1); (try clear ho2)) | ((with_reducible refine gate_dst (N := 6) rfl ?_); refine bx_ 6 #[.int .i64 0, .int .i64 0, .int .i64 0, .slice none 0 0, .slice none 0 0, .slice none 0 0] 64 ?_; intro gb445 hg w39 hbox hb; have BK445 := Aside0.mk (hbox); have GW445 := gs_ hg; have GE445 := gs_ hg; have NB431_445 := nl_ hg BK431; have NB445_431 := nr_ hg BK431; replace HO437 := kr_ HO437 hb; replace HO440 := kr_ HO440 hb; replace HO443 := kr_ HO443 hb; replace BK431 := kb_ BK431 hb; replace HB := Aside0.mk (below_step oB hb); clear hb hbox hg; have hnb40 := NB445_431.out; have hnc40 := NB431_445.out; obtain ⟨⟨_, _, _, _, _, _⟩, _, _, _, _, _, _⟩ := z6 BK445; obtain ⟨Ao42, co42, eo42⟩ := Kd.R_slice HO437.out; subst eo42; obtain ⟨Ao43, co43, eo43⟩ := Kd.R_slice HO440.out; subst eo43; obtain ⟨Ao44, co44, eo44⟩ := Kd.R_slice HO443.out; subst eo44))
  go_ret2
  exact ⟨_, oE, by first | exact Kd.R_nil _ _ _ _ _ | exact Kd.N_nil _ _ _ _ _ | exact Kd.V_nil _ _ _ _ _ | exact Kd.Q_nil _ _ _ _ _ | exact Kd.S_nil _ _ _ _ _, oB⟩

/-! ### laws_FnExactList: function 12 -/
def laws_FnExactList.T12 : Bool × List (List Nat × List Nat) := (true, [([], []), ([], []), ([1], [1]), ([0, 2, 2], [0, 2]), ([3], [3])])
def laws_FnExactList.B12 : List Nat := [0, 0, 2, 7, 15]
theorem laws_FnExactList.tab12 : rtab .any (opsOf Tryd.f12 12) = laws_FnExactList.T12 := by kernel_rfl
theorem laws_FnExactList.bits12 : waitsOk laws_FnExactList.T12.2 laws_FnExactList.B12 = true := by kernel_rfl
theorem laws_heldStringS.calls' (k : Nat) (A0 : Option Addr) (c0 n : Nat) (l0 : List ByteArray) (a1 r : Int) (w : World) (hn : l0.length = n) (hr0 : Kd.C Kd.string w A0 l0.length l0) (hc0 : l0.length ≤ c0) (h : laws_heldStringS.f k l0 a1 = some r) :
  Calls Tryd.prog 20 #[.slice A0 n c0, .int .i64 a1] w fun e w' => e = .returned (.int .i64 r) ∧ Below w.heap.size w w' := by
 subst hn
 exact laws_heldStringS.calls k A0 c0 l0 a1 r w hr0 hc0 h
def laws_FnExactList.f (k : Nat) (l0_0 : List S115) (a0_1 : Int) (a1 : ByteArray) : Option Bool :=
 if (a1.size : Int) > 1048576 then some true else (laws_szTab.f k l0_0 a0_1 1048576).bind fun R => if R < 0 then some true else
 (laws_toTab.f k l0_0 a0_1).bind fun t => (spec_List.f k t.1 t.2 a1).bind fun p => (impl_List.f k t.1 t.2 a1).bind fun s =>
 (laws_eqStringS.f k s.1 p.1).bind fun e1 => (laws_eqTab.f k t.1 t.2 t.1 t.2).bind fun e2 => (laws_markInodeS.f k t.1 1).bind fun mt =>
 (laws_markStringS.f k s.1 1).bind fun m => (laws_heldStringS.f k m.2 1).bind fun q =>
 if s.2 = p.2 ∧ e1 = true ∧ e2 = true ∧ ¬ mt.1 < 0 ∧ ¬ q < 0 ∧ q = m.1 ∧ m.2.length = s.1.length then some true else none
set_option maxHeartbeats 8000000 in
set_option maxRecDepth 100000 in
theorem laws_FnExactList.calls (k : Nat) (A0_0 : Option Addr) (c0_0 : Nat) (l0_0 : List S115) (a0_1 : Int) (a1 : ByteArray) (r : Bool) (w : World) (hr0_0 : Kd.C k115 w A0_0 l0_0.length l0_0) (hc0_0 : l0_0.length ≤ c0_0) (h : laws_FnExactList.f k l0_0 a0_1 a1 = some r) (hG : GOk w := by exact gk_ oB (by first | (with_reducible assumption) | assumption)) :
  Calls Tryd.prog 12 #[.agg #[.slice A0_0 l0_0.length c0_0, .int .i64 a0_1], .string a1] w fun e w' => e = .returned (.bool r) ∧ Below w.heap.size w w' := by
 have HG := Aside0.mk hG
 clear hG
 have HR0_0 := Aside0.mk hr0_0
 have HC0_0 := Aside0.mk hc0_0
 clear hr0_0 hc0_0
 have HB := Aside0.mk (Below.refl w.heap.size w)
 unfold laws_FnExactList.f at h
 split at h
 case isTrue hg =>
  have cg0 : decide ((a1.size : Int) > 1048576) = true := decide_eq_true hg
  have dg0 : decide (1048576 < (a1.size : Int)) = true := decide_eq_true (by omega)
  obtain rfl := Option.some.inj h
  clear h hg
  go_enter Tryd.func12, Tryd.ntmps12
  go_wp2
  go_ret
  exact ⟨rfl, oB⟩
 case isFalse hg =>
 have cg0 : decide ((a1.size : Int) > 1048576) = false := decide_eq_false hg
 have dg0 : decide (1048576 < (a1.size : Int)) = false := decide_eq_false (by omega)
 clear hg
 replace h := bA h
 obtain ⟨R, H1, h⟩ := h
 split at h
 case isTrue hR =>
  have cR : decide (R < 0) = true := decide_eq_true hR
  obtain rfl := Option.some.inj h
  clear h hR
  go_enter Tryd.func12, Tryd.ntmps12
  go_wp2_with fail
  refine (laws_szTab.calls k _ _ l0_0 a0_1 1048576 R _ (kC HR0_0) HC0_0.out H1.out).mono ?_
  rintro e w1 ⟨rfl, hb⟩
  replace HB := Aside0.mk (below_step oB hb)
  go_wp2
  go_ret
  exact ⟨rfl, oB⟩
 case isFalse hR =>
 have cR : decide (R < 0) = false := decide_eq_false hR
 clear hR
 replace h := bA h
 obtain ⟨⟨tl, tn⟩, H2, h⟩ := h
 replace h := bA h
 obtain ⟨⟨p1, p2⟩, H3, h⟩ := h
 replace h := bA h
 obtain ⟨⟨s1, s2⟩, H4, h⟩ := h
 replace h := bA h
 obtain ⟨e1, H5, h⟩ := h
 replace h := bA h
 obtain ⟨e2, H6, h⟩ := h
 replace h := bA h
 obtain ⟨⟨mt, ml⟩, H7, h⟩ := h
 replace h := bA h
 obtain ⟨⟨mk, mg⟩, H8, h⟩ := h
 replace h := bA h
 obtain ⟨q, H9, h⟩ := h
 split at h
 case isFalse => cases h
 case isTrue hh =>
 try dsimp only at hh
 obtain ⟨rfl, rfl, rfl, hmt, hq, rfl, l4⟩ := hh
 obtain rfl := Option.some.inj h
 clear h
 have cm : decide (mt < 0) = false := decide_eq_false hmt
 have cq : decide (q < 0) = false := decide_eq_false hq
 clear hmt hq
 have L4 := Aside0.mk l4
 clear l4
 try dsimp only at H3 H4 H5 H6 H7 H8 H9 L4
 go_enter Tryd.func12, Tryd.ntmps12
 go_wp2_with fail
 refine (laws_szTab.calls k _ _ l0_0 a0_1 1048576 R _ (kC HR0_0) HC0_0.out H1.out).mono ?_
 rintro e w1 ⟨rfl, hb⟩
 have n1 : w.heap.size + 1 ≤ w1.heap.size := by have := hb.size; simpa using this
 have K_aT := bnew hb
 replace hb := bold hb
 replace HB := Aside0.mk (below_step oB hb)
 clear hb
 have Z_aT := z2 K_aT
 have Y_aT := zz2 K_aT
 go_wp2_with fail
 refine (laws_toTab.calls k _ _ l0_0 a0_1 tl tn _ (kC HR0_0) HC0_0.out H2.out).mono ?_
 rintro e w2 ⟨v_t0, rfl, h_t0, hb⟩
 obtain ⟨A_t0, c_t0, rfl⟩ := Kd.S_slice h_t0
 have S_t0 := siv' h_t0 (w1.heap.size) w.heap.size (by simp) (below_size oB)
 clear h_t0
 have n2 : w1.heap.size ≤ w2.heap.size := by have := hb.size; simpa using this
 replace K_aT := bstep K_aT hb
 replace HB := Aside0.mk (below_step oB hb)
 clear hb
 replace Z_aT := z2 K_aT
 replace Y_aT := zz2 K_aT
 go_wp2_with fail
 refine (spec_List.calls k _ _ tl tn a1 p1 s2 _ (rS S_t0) (rl S_t0) H3.out).mono ?_
 rintro e w3 ⟨v_w0, rfl, h_w0, hb⟩
 obtain ⟨A_w0, c_w0, rfl⟩ := Kd.R_slice h_w0
 have S_w0 := riv' h_w0 (w2.heap.size) w.heap.size (by simp) (below_size oB)
 clear h_w0
 have n3 : w2.heap.size ≤ w3.heap.size := by have := hb.size; simpa using this
 replace K_aT := bstep K_aT hb
 replace S_t0 := sb S_t0 hb
 replace HB := Aside0.mk (below_step oB hb)
 clear hb
 replace Z_aT := z2 K_aT
 replace Y_aT := zz2 K_aT
 clear S_t0
 go_wp2_with fail
 refine (laws_toTab.calls k _ _ l0_0 a0_1 tl tn _ (kC HR0_0) HC0_0.out H2.out).mono ?_
 rintro e w4 ⟨v_x0, rfl, h_x0, hb⟩
 obtain ⟨A_x0, c_x0, rfl⟩ := Kd.S_slice h_x0
 have S_x0 := siv' h_x0 (w3.heap.size) w.heap.size (by simp) (below_size oB)
 clear h_x0
 have n4 : w3.heap.size ≤ w4.heap.size := by have := hb.size; simpa using this
 replace K_aT := bstep K_aT hb
 replace S_w0 := rb S_w0 hb
 replace HB := Aside0.mk (below_step oB hb)
 clear hb
 replace Z_aT := z2 K_aT
 replace Y_aT := zz2 K_aT
 go_wp2_with fail
 refine (impl_List.calls k _ _ tl tn a1 s1 s2 _ (rS S_x0) (rl S_x0) H4.out).mono ?_
 rintro e w5 ⟨v_g0, rfl, h_g0, hb⟩
 obtain ⟨A_g0, c_g0, rfl⟩ := Kd.R_slice h_g0
 have S_g0 := riv' h_g0 (w4.heap.size + 1) w.heap.size (by simp) (below_size oB)
 clear h_g0
 have n5 : w4.heap.size + 1 ≤ w5.heap.size := by have := hb.size; simpa using this
 have K_x0 := bnew hb
 replace hb := bold hb
 replace K_aT := bstep K_aT hb
 replace S_w0 := rb S_w0 hb
 replace S_x0 := sb S_x0 hb
 replace HB := Aside0.mk (below_step oB hb)
 clear hb
 replace Z_aT := z2 K_aT
 replace Y_aT := zz2 K_aT
 have Z_x0 := z2 K_x0
 have Y_x0 := zz2 K_x0
 go_wp2_with fail
 refine (laws_eqStringS.calls k _ _ s1 _ _ p1 true _ (kO S_g0) (rlR S_g0) (kO S_w0) (rlR S_w0) H5.out).mono ?_
 rintro e w6 ⟨rfl, hb⟩
 replace hb := Drawn0.below hb
 have n6 : w5.heap.size ≤ w6.heap.size := by have := hb.size; simpa using this
 replace K_aT := bstep K_aT hb
 replace K_x0 := bstep K_x0 hb
 replace S_w0 := rb S_w0 hb
 replace S_x0 := sb S_x0 hb
 replace S_g0 := rb S_g0 hb
 replace HB := Aside0.mk (below_step oB hb)
 clear hb
 replace Z_aT := z2 K_aT
 replace Y_aT := zz2 K_aT
 replace Z_x0 := z2 K_x0
 replace Y_x0 := zz2 K_x0
 go_wp2_with fail
 replace K_aT := bdrew K_aT
 replace K_x0 := bdrew K_x0
 replace S_w0 := rdrew S_w0
 replace S_x0 := sdrew S_x0
 replace S_g0 := rdrew S_g0
 replace HB := Aside0.mk (below_drew1 HB.out)
 have n7 : w6.heap.size ≤ w6.drew.heap.size := Nat.le_refl _
 clear Z_aT Y_aT Z_x0 Y_x0
 refine st_ 5 (fun w' => w'.cell? ⟨w4.heap.size, 0, none⟩ = some (.slice A_x0 tl.length c_x0) ∧ w'.cell? ⟨w4.heap.size, 1, none⟩ = some (.int .i64 tn) ∧ w'.cell? ⟨w.heap.size, 0, none⟩ = some (.slice A0_0 l0_0.length c0_0) ∧ w'.cell? ⟨w.heap.size, 1, none⟩ = some (.int .i64 a0_1)) laws_FnExactList.tab12 laws_FnExactList.bits12 oH (fun hHeld HT_ HW_ => ?_)
 generalize w6.drew = w7 at HB hHeld n7 K_aT K_x0 S_w0 S_x0 S_g0 ⊢
 refine ta_ 0 48 HT_ HW_ hHeld ?_
 refine ta_ 1 49 HT_ HW_ hHeld ?_
 refine on_ 2 50 HT_ (fun K hK => ?_)
 refine gr_ 50 Tryd.func34 (laws_toTab.calls k _ _ l0_0 a0_1 tl tn _ (kC HR0_0) HC0_0.out H2.out) ?_
 rintro e w8 ⟨v_y0, rfl, h_y0, hb⟩
 obtain ⟨A_y0, c_y0, rfl⟩ := Kd.S_slice h_y0
 have S_y0 := siv' h_y0 (w7.heap.size) w.heap.size (by simp) (below_size oB)
 clear h_y0
 refine ⟨_, rfl, ?_⟩
 have n8 : w7.heap.size ≤ w8.heap.size := by have := hb.size; simpa using this
 replace K_aT := bstep K_aT hb
 replace K_x0 := bstep K_x0 hb
 replace S_w0 := rb S_w0 hb
 replace S_x0 := sb S_x0 hb
 replace S_g0 := rb S_g0 hb
 replace HB := Aside0.mk (below_step oB hb)
 clear hb hHeld
 refine hk_ hK 50 oH (fun hHeld => ?_)
 clear hK K
 refine on_ 3 51 HT_ (fun K hK => ?_)
 refine gr_ 51 Tryd.func36 (laws_eqTab.calls k _ _ tl tn _ _ tl tn true _ (rS S_x0) (rl S_x0) (rS S_y0) (rl S_y0) H6.out) ?_
 rintro e w9 ⟨rfl, hb⟩
 refine ⟨_, rfl, ?_⟩
 have n9 : w8.heap.size ≤ w9.heap.size := by have := hb.size; simpa using this
 replace K_aT := bstep K_aT hb
 replace K_x0 := bstep K_x0 hb
 replace S_w0 := rb S_w0 hb
 replace S_x0 := sb S_x0 hb
 replace S_g0 := rb S_g0 hb
 replace S_y0 := sb S_y0 hb
 replace HB := Aside0.mk (below_step oB hb)
 clear hb hHeld
 refine hk_ hK 51 oH (fun hHeld => ?_)
 clear hK K
 refine pu_ 4 52 HT_ ?_
 refine dn_ HT_ ?_
 clear hHeld HT_ HW_
 have Z_aT := z2 K_aT
 have Y_aT := zz2 K_aT
 have Z_x0 := z2 K_x0
 have Y_x0 := zz2 K_x0
 clear S_y0
 go_wp2_with fail
 refine (laws_markTab.calls k _ _ tl tn 1 mt ml w _ HB.out S_x0.out H7.out).mono ?_
 rintro e w10 ⟨rfl, h_x0, hb, hk⟩
 have n10 : w9.heap.size ≤ w10.heap.size := hk.1
 replace S_w0 := rk S_w0 hk (fun q h h' => by omega)
 replace S_g0 := rk S_g0 hk (fun q h h' => by omega)
 replace K_aT := bkept K_aT hk (fun h => by omega)
 clear K_x0 Z_x0 Y_x0
 clear S_x0
 clear h_x0
 replace HB := Aside0.mk hb
 clear hb hk
 replace Z_aT := z2 K_aT
 replace Y_aT := zz2 K_aT
 go_wp2_with fail
 refine (laws_eqStringS.calls k _ _ s1 _ _ p1 true _ (kO S_g0) (rlR S_g0) (kO S_w0) (rlR S_w0) H5.out).mono ?_
 rintro e w11 ⟨rfl, hb⟩
 replace hb := Drawn0.below hb
 have n11 : w10.heap.size ≤ w11.heap.size := by have := hb.size; simpa using this
 replace K_aT := bstep K_aT hb
 replace S_w0 := rb S_w0 hb
 replace S_g0 := rb S_g0 hb
 replace HB := Aside0.mk (below_step oB hb)
 clear hb
 replace Z_aT := z2 K_aT
 replace Y_aT := zz2 K_aT
 go_wp2_with fail
 refine (laws_markStringS.calls k _ _ s1 1 q mg w _ HB.out S_g0.out H8.out).mono ?_
 rintro e w12 ⟨rfl, h_g0, hb, hk⟩
 have n12 : w11.heap.size ≤ w12.heap.size := hk.1
 replace S_w0 := rk S_w0 hk (fun q h h' => by omega)
 replace K_aT := bkept K_aT hk (fun h => by omega)
 replace S_g0 := Aside0.mk h_g0
 clear h_g0
 replace HB := Aside0.mk hb
 clear hb hk
 replace Z_aT := z2 K_aT
 replace Y_aT := zz2 K_aT
 go_wp2_with fail
 refine (laws_heldStringS.calls' k _ _ _ mg 1 q _ L4.out (kO S_g0) (rlR S_g0) H9.out).mono ?_
 rintro e w13 ⟨rfl, hb⟩
 have n13 : w12.heap.size ≤ w13.heap.size := by have := hb.size; simpa using this
 replace K_aT := bstep K_aT hb
 replace S_w0 := rb S_w0 hb
 replace S_g0 := rb S_g0 hb
 replace HB := Aside0.mk (below_step oB hb)
 clear hb
 replace Z_aT := z2 K_aT
 replace Y_aT := zz2 K_aT
 go_wp2_with fail
 refine (laws_toTab.calls k _ _ l0_0 a0_1 tl tn _ (kC HR0_0) HC0_0.out H2.out).mono ?_
 rintro e w14 ⟨v_z0, rfl, h_z0, hb⟩
 obtain ⟨A_z0, c_z0, rfl⟩ := Kd.S_slice h_z0
 have S_z0 := siv' h_z0 (w13.heap.size) w.heap.size (by simp) (below_size oB)
 clear h_z0
 have n14 : w13.heap.size ≤ w14.heap.size := by have := hb.size; simpa using this
 replace K_aT := bstep K_aT hb
 replace S_w0 := rb S_w0 hb
 replace S_g0 := rb S_g0 hb
 replace HB := Aside0.mk (below_step oB hb)
 clear hb
 replace Z_aT := z2 K_aT
 replace Y_aT := zz2 K_aT
 go_wp2_with fail
 refine (impl_List.calls k _ _ tl tn a1 s1 s2 _ (rS S_z0) (rl S_z0) H4.out).mono ?_
 rintro e w15 ⟨v_h0, rfl, h_h0, hb⟩
 obtain ⟨A_h0, c_h0, rfl⟩ := Kd.R_slice h_h0
 have S_h0 := riv' h_h0 (w14.heap.size) w.heap.size (by simp) (below_size oB)
 clear h_h0
 have n15 : w14.heap.size ≤ w15.heap.size := by have := hb.size; simpa using this
 replace K_aT := bstep K_aT hb
 replace S_w0 := rb S_w0 hb
 replace S_g0 := rb S_g0 hb
 replace S_z0 := sb S_z0 hb
 replace HB := Aside0.mk (below_step oB hb)
 clear hb
 replace Z_aT := z2 K_aT
 replace Y_aT := zz2 K_aT
 go_wp2_with fail
 refine (laws_eqStringS.calls k _ _ s1 _ _ p1 true _ (kO S_h0) (rlR S_h0) (kO S_w0) (rlR S_w0) H5.out).mono ?_
 rintro e w16 ⟨rfl, hb⟩
 replace hb := Drawn0.below hb
 have n16 : w15.heap.size ≤ w16.heap.size := by have := hb.size; simpa using this
 replace K_aT := bstep K_aT hb
 replace S_w0 := rb S_w0 hb
 replace S_g0 := rb S_g0 hb
 replace S_z0 := sb S_z0 hb
 replace S_h0 := rb S_h0 hb
 replace HB := Aside0.mk (below_step oB hb)
 clear hb
 replace Z_aT := z2 K_aT
 replace Y_aT := zz2 K_aT
 go_wp2_with fail
 refine (laws_heldStringS.calls' k _ _ _ mg 1 q _ L4.out (kO S_g0) (rlR S_g0) H9.out).mono ?_
 rintro e w17 ⟨rfl, hb⟩
 have n17 : w16.heap.size ≤ w17.heap.size := by have := hb.size; simpa using this
 replace K_aT := bstep K_aT hb
 replace S_w0 := rb S_w0 hb
 replace S_g0 := rb S_g0 hb
 replace S_z0 := sb S_z0 hb
 replace S_h0 := rb S_h0 hb
 replace HB := Aside0.mk (below_step oB hb)
 clear hb
 replace Z_aT := z2 K_aT
 replace Y_aT := zz2 K_aT
 go_wp2_with fail
 go_ret
 exact ⟨rfl, oB⟩
end Go.Proofs.YtkfcmpalbhmmaaaDoor.P
