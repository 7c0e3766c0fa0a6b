-- By this session's own program (wip/myprint.py) out of the translation; Lean checks it.
import Derived.Test.YtkfcmpalbhmmaaaDoorPx0
import Derived.Test.YtkfcmpalbhmmaaaDoorPx1
import Derived.Test.YtkfcmpalbhmmaaaDoorPx2
import Derived.Test.YtkfcmpalbhmmaaaDoorPx3
namespace Go.Proofs.YtkfcmpalbhmmaaaDoor.P
open Go.RowKit Go.Proofs.YtkfcmpalbhmmaaaDoorW.PrintWords Go.Proofs.YtkfcmpalbhmmaaaDoorW.PrintLast Go.Proofs.YtkfcmpalbhmmaaaDoorW.PrintMore
attribute [local go_sem] max2_int min2_int max_two min_two max_three min_three max_four min_four   -- for this text's walks alone
set_option linter.unusedVariables false
set_option linter.unusedSimpArgs false

/-! ### impl_copyInode: function 93 -/
def impl_copyInode.f (a0_0 : Int) (a0_1 : Int) (a0_2 : Int) (l0_3 : List Int) (l0_4 : List (S91)) (l0_5 : List (S87)) : Option (Int × Int × Int × List Int × (List (S91)) × (List (S87))) := (slices_Clone_byte_byte.f l0_3).bind fun t342 => ((slices_Clone_Ent.f l0_4).bind fun t345 => ((slices_Clone_Attr.f l0_5).bind fun t348 => (some (a0_0, a0_1, a0_2, t342, t345, t348))))
set_option maxHeartbeats 8000000 in
set_option maxRecDepth 100000 in
theorem impl_copyInode.calls (a0_0 : Int) (a0_1 : Int) (a0_2 : Int) (A0_3 : Option Addr) (c0_3 : Nat) (l0_3 : List Int) (A0_4 : Option Addr) (c0_4 : Nat) (l0_4 : List (S91)) (A0_5 : Option Addr) (c0_5 : Nat) (l0_5 : List (S87)) (r1 : Int) (r2 : Int) (r3 : Int) (r4 : List Int) (r5 : List (S91)) (r6 : List (S87)) (w : World) (hr0_3 : Kd.C (Kd.int .u8) w A0_3 l0_3.length l0_3) (hc0_3 : l0_3.length ≤ c0_3) (hr0_4 : Kd.C k91 w A0_4 l0_4.length l0_4) (hc0_4 : l0_4.length ≤ c0_4) (hr0_5 : Kd.C k87 w A0_5 l0_5.length l0_5) (hc0_5 : l0_5.length ≤ c0_5) (h : impl_copyInode.f a0_0 a0_1 a0_2 l0_3 l0_4 l0_5 = some (r1, r2, r3, r4, r5, r6)) :
  Calls Tryd.prog 93 #[.agg #[.int .i64 a0_0, .int .i64 a0_1, .int .i64 a0_2, .slice A0_3 l0_3.length c0_3, .slice A0_4 l0_4.length c0_4, .slice A0_5 l0_5.length c0_5]] w fun e w' => ∃ v3_ v4_ v5_ : Value, e = .returned (.agg #[.int .i64 r1, .int .i64 r2, .int .i64 r3, v3_, v4_, v5_]) ∧ Kd.R (Kd.int .u8) 5 w' w.heap.size (fun _ => True) v3_ r4 ∧ Kd.R k91 91 w' w.heap.size (fun _ => True) v4_ r5 ∧ Kd.R k87 87 w' w.heap.size (fun _ => True) v5_ r6 ∧ Below w.heap.size w w' := by
 have hu64 := Tryd.underlying64
 have HR0_3 := Aside0.mk hr0_3
 have HC0_3 := Aside0.mk hc0_3
 clear hr0_3 hc0_3
 have HR0_4 := Aside0.mk hr0_4
 have HC0_4 := Aside0.mk hc0_4
 clear hr0_4 hc0_4
 have HR0_5 := Aside0.mk hr0_5
 have HC0_5 := Aside0.mk hc0_5
 clear hr0_5 hc0_5
 have HB := Aside0.mk (Below.refl w.heap.size w)
 unfold impl_copyInode.f at h
 have H := h
 clear h
 replace H := bA H
 obtain ⟨t342, A2, H⟩ := H
 try dsimp only at H
 replace H := bA H
 obtain ⟨t345, A3, H⟩ := H
 try dsimp only at H
 replace H := bA H
 obtain ⟨t348, A4, H⟩ := H
 try dsimp only at H
 simp only [Option.some.injEq, Prod.mk.injEq] at H
 obtain ⟨rfl, rfl, rfl, rfl, rfl, rfl⟩ := H
 go_enter Tryd.func93, Tryd.ntmps93
 go_wp2_with (first | ((with_reducible refine gate_dst (N := 1) rfl ?_); refine bx_ 1 #[.int .i64 a0_0, .int .i64 a0_1, .int .i64 a0_2, .slice A0_3 l0_3.length c0_3, .slice A0_4 l0_4.length c0_4, .slice A0_5 l0_5.length c0_5] 64 ?_; intro gb340 hg w5 hbox hb; have BK340 := Aside0.mk (hbox); have GW340 := gs_ hg; have GE340 := gs_ hg; replace HB := Aside0.mk (below_step oB hb); clear hb hbox hg) | ((with_reducible refine gate_dst (N := 2) rfl ?_); refine bx_ 2 #[.int .i64 0, .int .i64 0, .int .i64 0, .slice none 0 0, .slice none 0 0, .slice none 0 0] 64 ?_; intro gb341 hg w6 hbox hb; have BK341 := Aside0.mk (hbox); have GW341 := gs_ hg; have GE341 := gs_ hg; have NB340_341 := nl_ hg BK340; have NB341_340 := nr_ hg BK340; replace BK340 := kb_ BK340 hb; replace HB := Aside0.mk (below_step oB hb); clear hb hbox hg; have hnb7 := NB340_341.out; have hnc7 := NB341_340.out; obtain ⟨⟨_, _, _, _, _, _⟩, _, _, _, _, _, _⟩ := z6 BK340) | ((with_reducible refine gate_callee (f := 70) rfl ?_); refine gl_ 5 Tryd.func70 (slices_Clone_byte_byte.calls _ _ l0_3 t342 _ (kC HR0_3) HC0_3.out A2.out) ?_; rintro e w9 ⟨v343, rfl, ho0, hb⟩; refine ⟨_, rfl, ?_⟩; have HO344 := Aside0.mk (Kd.R_lower ho0 (below_size oB)); replace BK340 := kb_ BK340 hb; replace BK341 := kb_ BK341 hb; replace HB := Aside0.mk (below_step oB hb); obtain ⟨Ao10, co10, eo10⟩ := Kd.R_slice HO344.out; subst eo10; obtain ⟨⟨_, _, _, _, _, _⟩, _, _, _, _, _, _⟩ := z6 BK340) | ((with_reducible refine gate_callee (f := 111) rfl ?_); refine gl_ 9 Tryd.func111 (slices_Clone_Ent.calls _ _ l0_4 t345 _ ?side1 HC0_4.out A3.out) ?_; (case side1 => exact Kd.C_below HR0_4.out oB); rintro e w12 ⟨v346, rfl, ho0, hb⟩; refine ⟨_, rfl, ?_⟩; have HO347 := Aside0.mk (Kd.R_lower ho0 (below_size oB)); replace HO344 := Aside0.mk (Kd.R_below (by (with_reducible repeat (first | apply Kd.R_alloc | apply Kd.R_drewN | apply Kd.R_drew)); exact (Kd.R_mono (Kd.R_far (p := ⟨gb340, 3, none⟩) (Kd.R_types HO344.out BK340.out (by decide)) (fun _ hk => hk.2) (.slice Ao10 t342.length co10)) (fun _ h_ => h_.1))) hb); replace BK340 := Aside0.mk (blk_below (g := gb340) (o := .cells #[.int .i64 a0_0, .int .i64 a0_1, .int .i64 a0_2, .slice Ao10 t342.length co10, .slice A0_4 l0_4.length c0_4, .slice A0_5 l0_5.length c0_5] 64 (0, 0)) (by (with_reducible repeat (first | refine blk_drewN ?_ _ | refine blk_drew ?_ | refine blk_alloc ?_ _)); refine blk_put (cs := #[.int .i64 a0_0, .int .i64 a0_1, .int .i64 a0_2, .slice A0_3 l0_3.length c0_3, .slice A0_4 l0_4.length c0_4, .slice A0_5 l0_5.length c0_5]) ?_ 3 _ rfl; (with_reducible repeat (first | refine blk_drewN ?_ _ | refine blk_drew ?_ | refine blk_alloc ?_ _)); exact BK340.out) hb); replace BK341 := Aside0.mk (blk_below (g := gb341) (o := .cells #[.int .i64 0, .int .i64 0, .int .i64 0, .slice none 0 0, .slice none 0 0, .slice none 0 0] 64 (0, 0)) (by (with_reducible repeat (first | refine blk_drewN ?_ _ | refine blk_drew ?_ | refine blk_alloc ?_ _)); refine blk_far ?_ NB341_340.out _; (with_reducible repeat (first | refine blk_drewN ?_ _ | refine blk_drew ?_ | refine blk_alloc ?_ _)); exact BK341.out) hb); replace HB := Aside0.mk (below_step oB hb); (try clear hk); obtain ⟨Ao13, co13, eo13⟩ := Kd.R_slice HO347.out; subst eo13; obtain ⟨⟨_, _, _, _, _, _⟩, _, _, _, _, _, _⟩ := z6 BK340) | ((with_reducible refine gate_callee (f := 112) rfl ?_); refine gl_ 13 Tryd.func112 (slices_Clone_Attr.calls _ _ l0_5 t348 _ ?side1 HC0_5.out A4.out) ?_; (case side1 => exact Kd.C_below HR0_5.out oB); rintro e w15 ⟨v349, rfl, ho0, hb⟩; refine ⟨_, rfl, ?_⟩; have HO350 := Aside0.mk (Kd.R_lower ho0 (below_size oB)); replace HO344 := Aside0.mk (Kd.R_below (by (with_reducible repeat (first | apply Kd.R_alloc | apply Kd.R_drewN | apply Kd.R_drew)); exact (Kd.R_mono (Kd.R_far (p := ⟨gb340, 4, none⟩) (Kd.R_types HO344.out BK340.out (by decide)) (fun _ hk => hk.2) (.slice Ao13 t345.length co13)) (fun _ h_ => h_.1))) hb); replace HO347 := Aside0.mk (Kd.R_below (by (with_reducible repeat (first | apply Kd.R_alloc | apply Kd.R_drewN | apply Kd.R_drew)); exact (Kd.R_mono (Kd.R_far (p := ⟨gb340, 4, none⟩) (Kd.R_types HO347.out BK340.out (by decide)) (fun _ hk => hk.2) (.slice Ao13 t345.length co13)) (fun _ h_ => h_.1))) hb); replace BK340 := Aside0.mk (blk_below (g := gb340) (o := .cells #[.int .i64 a0_0, .int .i64 a0_1, .int .i64 a0_2, .slice Ao10 t342.length co10, .slice Ao13 t345.length co13, .slice A0_5 l0_5.length c0_5] 64 (0, 0)) (by (with_reducible repeat (first | refine blk_drewN ?_ _ | refine blk_drew ?_ | refine blk_alloc ?_ _)); refine blk_put (cs := #[.int .i64 a0_0, .int .i64 a0_1, .int .i64 a0_2, .slice Ao10 t342.length co10, .slice A0_4 l0_4.length c0_4, .slice A0_5 l0_5.length c0_5]) ?_ 4 _ rfl; (with_reducible repeat (first | refine blk_drewN ?_ _ | refine blk_drew ?_ | refine blk_alloc ?_ _)); exact BK340.out) hb); replace BK341 := Aside0.mk (blk_below (g := gb341) (o := .cells #[.int .i64 0, .int .i64 0, .int .i64 0, .slice none 0 0, .slice none 0 0, .slice none 0 0] 64 (0, 0)) (by (with_reducible repeat (first | refine blk_drewN ?_ _ | refine blk_drew ?_ | refine blk_alloc ?_ _)); refine blk_far ?_ NB341_340.out _; (with_reducible repeat (first | refine blk_drewN ?_ _ | refine blk_drew ?_ | refine blk_alloc ?_ _)); exact BK341.out) hb); replace HB := Aside0.mk (below_step oB hb); (try clear hk); obtain ⟨Ao16, co16, eo16⟩ := Kd.R_slice HO350.out; subst eo16; obtain ⟨⟨_, _, _, _, _, _⟩, _, _, _, _, _, _⟩ := z6 BK340; obtain ⟨⟨_, _, _, _, _, _⟩, _, _, _, _, _, _⟩ := z6 BK341))
 refine bodyPost_ret (results_cell_row rfl _ _ gb341 64 #[.int .i64 a0_0, .int .i64 a0_1, .int .i64 a0_2, .slice Ao10 t342.length co10, .slice Ao13 t345.length co13, .slice Ao16 t348.length co16] (0, 0) _ rfl (by (with_reducible repeat (first | refine blk_drewN ?_ _ | refine blk_drew ?_ | refine blk_alloc ?_ _)); refine blk_put (cs := #[.int .i64 a0_0, .int .i64 a0_1, .int .i64 a0_2, .slice Ao10 t342.length co10, .slice Ao13 t345.length co13, .slice none 0 0]) ?_ 5 _ rfl; (with_reducible repeat (first | refine blk_drewN ?_ _ | refine blk_drew ?_ | refine blk_alloc ?_ _)); refine blk_put (cs := #[.int .i64 a0_0, .int .i64 a0_1, .int .i64 a0_2, .slice Ao10 t342.length co10, .slice none 0 0, .slice none 0 0]) ?_ 4 _ rfl; (with_reducible repeat (first | refine blk_drewN ?_ _ | refine blk_drew ?_ | refine blk_alloc ?_ _)); refine blk_put (cs := #[.int .i64 a0_0, .int .i64 a0_1, .int .i64 a0_2, .slice none 0 0, .slice none 0 0, .slice none 0 0]) ?_ 3 _ rfl; (with_reducible repeat (first | refine blk_drewN ?_ _ | refine blk_drew ?_ | refine blk_alloc ?_ _)); refine blk_put (cs := #[.int .i64 a0_0, .int .i64 a0_1, .int .i64 0, .slice none 0 0, .slice none 0 0, .slice none 0 0]) ?_ 2 _ rfl; (with_reducible repeat (first | refine blk_drewN ?_ _ | refine blk_drew ?_ | refine blk_alloc ?_ _)); refine blk_put (cs := #[.int .i64 a0_0, .int .i64 0, .int .i64 0, .slice none 0 0, .slice none 0 0, .slice none 0 0]) ?_ 1 _ rfl; (with_reducible repeat (first | refine blk_drewN ?_ _ | refine blk_drew ?_ | refine blk_alloc ?_ _)); refine blk_put (cs := #[.int .i64 0, .int .i64 0, .int .i64 0, .slice none 0 0, .slice none 0 0, .slice none 0 0]) ?_ 0 _ rfl; (with_reducible repeat (first | refine blk_drewN ?_ _ | refine blk_drew ?_ | refine blk_alloc ?_ _)); refine blk_far ?_ NB341_340.out _; (with_reducible repeat (first | refine blk_drewN ?_ _ | refine blk_drew ?_ | refine blk_alloc ?_ _)); exact BK341.out) Tryd.underlying64 rfl (by kernel_rfl)) rfl ?_
 exact ⟨_, _, _, oE, by (with_reducible repeat (first | apply Kd.R_alloc | apply Kd.R_drewN | apply Kd.R_drew)); exact Kd.R_mono (Kd.R_far (p := ⟨gb341, 5, none⟩) (Kd.R_far (p := ⟨gb341, 4, none⟩) (Kd.R_far (p := ⟨gb341, 3, none⟩) (Kd.R_far (p := ⟨gb341, 2, none⟩) (Kd.R_far (p := ⟨gb341, 1, none⟩) (Kd.R_far (p := ⟨gb341, 0, none⟩) (Kd.R_far (p := ⟨gb340, 5, none⟩) (Kd.R_types (Kd.R_types HO344.out BK340.out (by decide)) BK341.out (by decide)) (fun _ hk => hk.1.2) (.slice Ao16 t348.length co16)) (fun _ hk => hk.2) (.int .i64 a0_0)) (fun _ hk => hk.2) (.int .i64 a0_1)) (fun _ hk => hk.2) (.int .i64 a0_2)) (fun _ hk => hk.2) (.slice Ao10 t342.length co10)) (fun _ hk => hk.2) (.slice Ao13 t345.length co13)) (fun _ hk => hk.2) (.slice Ao16 t348.length co16)) (fun _ hk => trivial), by (with_reducible repeat (first | apply Kd.R_alloc | apply Kd.R_drewN | apply Kd.R_drew)); exact Kd.R_mono (Kd.R_far (p := ⟨gb341, 5, none⟩) (Kd.R_far (p := ⟨gb341, 4, none⟩) (Kd.R_far (p := ⟨gb341, 3, none⟩) (Kd.R_far (p := ⟨gb341, 2, none⟩) (Kd.R_far (p := ⟨gb341, 1, none⟩) (Kd.R_far (p := ⟨gb341, 0, none⟩) (Kd.R_far (p := ⟨gb340, 5, none⟩) (Kd.R_types (Kd.R_types HO347.out BK340.out (by decide)) BK341.out (by decide)) (fun _ hk => hk.1.2) (.slice Ao16 t348.length co16)) (fun _ hk => hk.2) (.int .i64 a0_0)) (fun _ hk => hk.2) (.int .i64 a0_1)) (fun _ hk => hk.2) (.int .i64 a0_2)) (fun _ hk => hk.2) (.slice Ao10 t342.length co10)) (fun _ hk => hk.2) (.slice Ao13 t345.length co13)) (fun _ hk => hk.2) (.slice Ao16 t348.length co16)) (fun _ hk => trivial), by (with_reducible repeat (first | apply Kd.R_alloc | apply Kd.R_drewN | apply Kd.R_drew)); exact Kd.R_mono (Kd.R_far (p := ⟨gb341, 5, none⟩) (Kd.R_far (p := ⟨gb341, 4, none⟩) (Kd.R_far (p := ⟨gb341, 3, none⟩) (Kd.R_far (p := ⟨gb341, 2, none⟩) (Kd.R_far (p := ⟨gb341, 1, none⟩) (Kd.R_far (p := ⟨gb341, 0, none⟩) (Kd.R_far (p := ⟨gb340, 5, none⟩) (Kd.R_types (Kd.R_types HO350.out BK340.out (by decide)) BK341.out (by decide)) (fun _ hk => hk.1.2) (.slice Ao16 t348.length co16)) (fun _ hk => hk.2) (.int .i64 a0_0)) (fun _ hk => hk.2) (.int .i64 a0_1)) (fun _ hk => hk.2) (.int .i64 a0_2)) (fun _ hk => hk.2) (.slice Ao10 t342.length co10)) (fun _ hk => hk.2) (.slice Ao13 t345.length co13)) (fun _ hk => hk.2) (.slice Ao16 t348.length co16)) (fun _ hk => trivial), oB⟩

/-! ### impl_InodeAt: function 67 -/
def impl_InodeAt.f (k : Nat) (l0_0 : List (S64)) (a0_1 : Int) (a1 : Int) : Option (Int × Int × Int × List Int × (List (S91)) × (List (S87)) × Bool) := (impl_placeOf.f k l0_0 a0_1 a1).bind fun t353 => (if t353 < 0 then (some (0, 0, 0, ([] : List Int), ([] : List (S91)), ([] : List (S87)), false)) else (if 0 ≤ t353 then (if t353 < (l0_0.length : Int) then ((impl_copyInode.f ((rd_T64 l0_0 t353).f0) ((rd_T64 l0_0 t353).f1) ((rd_T64 l0_0 t353).f2) ((rd_T64 l0_0 t353).f3) ((rd_T64 l0_0 t353).f4) ((rd_T64 l0_0 t353).f5)).bind fun bt355 => (some (bt355.1, bt355.2.1, bt355.2.2.1, bt355.2.2.2.1, bt355.2.2.2.2.1, bt355.2.2.2.2.2, true))) else (none)) else (none)))
set_option maxHeartbeats 8000000 in
set_option maxRecDepth 100000 in
theorem impl_InodeAt.calls (k : Nat) (A0_0 : Option Addr) (c0_0 : Nat) (l0_0 : List (S64)) (a0_1 : Int) (a1 : Int) (r1 : Int) (r2 : Int) (r3 : Int) (r4 : List Int) (r5 : List (S91)) (r6 : List (S87)) (r7 : Bool) (w : World) (hr0_0 : Kd.C k64 w A0_0 l0_0.length l0_0) (hc0_0 : l0_0.length ≤ c0_0) (h : impl_InodeAt.f k l0_0 a0_1 a1 = some (r1, r2, r3, r4, r5, r6, r7)) :
  Calls Tryd.prog 67 #[.agg #[.slice A0_0 l0_0.length c0_0, .int .i64 a0_1], .int .i64 a1] w fun e w' => ∃ v3_ v4_ v5_ : Value, e = .returned (.tuple #[.agg #[.int .i64 r1, .int .i64 r2, .int .i64 r3, v3_, v4_, v5_], .bool r7]) ∧ Kd.R (Kd.int .u8) 5 w' w.heap.size (fun _ => True) v3_ r4 ∧ Kd.R k91 91 w' w.heap.size (fun _ => True) v4_ r5 ∧ Kd.R k87 87 w' w.heap.size (fun _ => True) v5_ r6 ∧ Below w.heap.size w w' := by
 have hu46 := Tryd.underlying46
 have hu64 := Tryd.underlying64
 have HR0_0 := Aside0.mk hr0_0
 have HC0_0 := Aside0.mk hc0_0
 clear hr0_0 hc0_0
 have HB := Aside0.mk (Below.refl w.heap.size w)
 unfold impl_InodeAt.f at h
 have H := h
 clear h
 replace H := bA H
 obtain ⟨t353, A3, H⟩ := H
 try dsimp only at H
 replace H := itD H
 rcases H with ⟨c4b0, H⟩ | ⟨c4b0, H⟩
 ·simp only [Option.some.injEq, Prod.mk.injEq] at H
  obtain ⟨rfl, rfl, rfl, rfl, rfl, rfl, rfl⟩ := H
  go_enter Tryd.func67, Tryd.ntmps67
  go_wp2_with (first | ((with_reducible refine gate_dst (N := 2) rfl ?_); refine bx_ 2 #[.slice A0_0 l0_0.length c0_0, .int .i64 a0_1] 46 ?_; intro gb351 hg w5 hbox hb; have BK351 := Aside0.mk (hbox); have GW351 := gs_ hg; have GE351 := gs_ hg; replace HB := Aside0.mk (below_step oB hb); clear hb hbox hg) | ((with_reducible refine gate_dst (N := 4) rfl ?_); refine bx_ 4 #[.int .i64 0, .int .i64 0, .int .i64 0, .slice none 0 0, .slice none 0 0, .slice none 0 0] 64 ?_; intro gb352 hg w6 hbox hb; have BK352 := Aside0.mk (hbox); have GW352 := gs_ hg; have GE352 := gs_ hg; have NB351_352 := nl_ hg BK351; have NB352_351 := nr_ hg BK351; replace BK351 := kb_ BK351 hb; replace HB := Aside0.mk (below_step oB hb); clear hb hbox hg; have hnb7 := NB351_352.out; have hnc7 := NB352_351.out; obtain ⟨⟨_, _⟩, _, _⟩ := z2 BK351) | ((with_reducible refine gate_callee (f := 92) rfl ?_); refine gl_ 9 Tryd.func92 (impl_placeOf.calls k _ _ l0_0 a0_1 a1 t353 _ (kC HR0_0) HC0_0.out A3.out) ?_; rintro e w9 ⟨rfl, hb⟩; refine ⟨_, rfl, ?_⟩; replace BK351 := kb_ BK351 hb; replace BK352 := kb_ BK352 hb; replace HB := Aside0.mk (below_step oB hb); obtain ⟨⟨_, _, _, _, _, _⟩, _, _, _, _, _, _⟩ := z6 BK352))
  refine bodyPost_ret (results_ct rfl _ _ gb352 64 #[.int .i64 0, .int .i64 0, .int .i64 0, .slice none 0 0, .slice none 0 0, .slice none 0 0] (0, 0) _ rfl (by (with_reducible repeat (first | refine blk_drewN ?_ _ | refine blk_drew ?_ | refine blk_alloc ?_ _)); refine blk_put (cs := #[.int .i64 0, .int .i64 0, .int .i64 0, .slice none 0 0, .slice none 0 0, .slice none 0 0]) ?_ 5 _ rfl; (with_reducible repeat (first | refine blk_drewN ?_ _ | refine blk_drew ?_ | refine blk_alloc ?_ _)); refine blk_put (cs := #[.int .i64 0, .int .i64 0, .int .i64 0, .slice none 0 0, .slice none 0 0, .slice none 0 0]) ?_ 4 _ rfl; (with_reducible repeat (first | refine blk_drewN ?_ _ | refine blk_drew ?_ | refine blk_alloc ?_ _)); refine blk_put (cs := #[.int .i64 0, .int .i64 0, .int .i64 0, .slice none 0 0, .slice none 0 0, .slice none 0 0]) ?_ 3 _ rfl; (with_reducible repeat (first | refine blk_drewN ?_ _ | refine blk_drew ?_ | refine blk_alloc ?_ _)); refine blk_put (cs := #[.int .i64 0, .int .i64 0, .int .i64 0, .slice none 0 0, .slice none 0 0, .slice none 0 0]) ?_ 2 _ rfl; (with_reducible repeat (first | refine blk_drewN ?_ _ | refine blk_drew ?_ | refine blk_alloc ?_ _)); refine blk_put (cs := #[.int .i64 0, .int .i64 0, .int .i64 0, .slice none 0 0, .slice none 0 0, .slice none 0 0]) ?_ 1 _ rfl; (with_reducible repeat (first | refine blk_drewN ?_ _ | refine blk_drew ?_ | refine blk_alloc ?_ _)); refine blk_put (cs := #[.int .i64 0, .int .i64 0, .int .i64 0, .slice none 0 0, .slice none 0 0, .slice none 0 0]) ?_ 0 _ rfl; (with_reducible repeat (first | refine blk_drewN ?_ _ | refine blk_drew ?_ | refine blk_alloc ?_ _)); exact BK352.out) Tryd.underlying64 rfl (by kernel_rfl)) rfl ?_
  exact ⟨_, _, _, oE, by first | exact Kd.R_nil _ _ _ _ _ | exact Kd.N_nil _ _ _ _ _ | exact Kd.V_nil _ _ _ _ _ | exact Kd.Q_nil _ _ _ _ _ | exact Kd.S_nil _ _ _ _ _, by first | exact Kd.R_nil _ _ _ _ _ | exact Kd.N_nil _ _ _ _ _ | exact Kd.V_nil _ _ _ _ _ | exact Kd.Q_nil _ _ _ _ _ | exact Kd.S_nil _ _ _ _ _, by first | exact Kd.R_nil _ _ _ _ _ | exact Kd.N_nil _ _ _ _ _ | exact Kd.V_nil _ _ _ _ _ | exact Kd.Q_nil _ _ _ _ _ | exact Kd.S_nil _ _ _ _ _, oB⟩
 ·replace H := itD H
  rcases H with ⟨c11b0, H⟩ | ⟨c11b0, H⟩
  ·replace H := itD H
   rcases H with ⟨c12b0, H⟩ | ⟨c12b0, H⟩
   ·replace H := bA H
    obtain ⟨⟨t355, t356, t357, t358, t361, t364⟩, A13, H⟩ := H
    try dsimp only at H
    simp only [Option.some.injEq, Prod.mk.injEq] at H
    obtain ⟨rfl, rfl, rfl, rfl, rfl, rfl, rfl⟩ := H
    go_enter Tryd.func67, Tryd.ntmps67
    go_wp2_with (first | ((with_reducible refine gate_dst (N := 2) rfl ?_); refine bx_ 2 #[.slice A0_0 l0_0.length c0_0, .int .i64 a0_1] 46 ?_; intro gb351 hg w14 hbox hb; have BK351 := Aside0.mk (hbox); have GW351 := gs_ hg; have GE351 := gs_ hg; replace HB := Aside0.mk (below_step oB hb); clear hb hbox hg) | ((with_reducible refine gate_dst (N := 4) rfl ?_); refine bx_ 4 #[.int .i64 0, .int .i64 0, .int .i64 0, .slice none 0 0, .slice none 0 0, .slice none 0 0] 64 ?_; intro gb352 hg w15 hbox hb; have BK352 := Aside0.mk (hbox); have GW352 := gs_ hg; have GE352 := gs_ hg; have NB351_352 := nl_ hg BK351; have NB352_351 := nr_ hg BK351; replace BK351 := kb_ BK351 hb; replace HB := Aside0.mk (below_step oB hb); clear hb hbox hg; have hnb16 := NB351_352.out; have hnc16 := NB352_351.out; obtain ⟨⟨_, _⟩, _, _⟩ := z2 BK351) | ((with_reducible refine gate_callee (f := 92) rfl ?_); refine gl_ 9 Tryd.func92 (impl_placeOf.calls k _ _ l0_0 a0_1 a1 t353 _ (kC HR0_0) HC0_0.out A3.out) ?_; rintro e w18 ⟨rfl, hb⟩; refine ⟨_, rfl, ?_⟩; replace BK351 := kb_ BK351 hb; replace BK352 := kb_ BK352 hb; replace HB := Aside0.mk (below_step oB hb); obtain ⟨⟨_, _⟩, _, _⟩ := z2 BK351; have p354 : (0 ≤ (t353 : Int)) = True := oT; have q354 : (t353 < (l0_0.length : Int)) = True := oT; obtain ⟨ad354, A354_3, c354_3, A354_4, c354_4, A354_5, c354_5, e354, hx354_0, hx354_1, hx354_2, hx354_3, hx354_4, hx354_5, hl354_3, hi354_3, hl354_4, hi354_4, hl354_5, hi354_5⟩ := at_T64 HR0_0.out t353 oa oa; cases e354; replace hx354_0 := cB HB hx354_0; replace hx354_1 := cB HB hx354_1; replace hx354_2 := cB HB hx354_2; replace hx354_3 := cB HB hx354_3; replace hx354_4 := cB HB hx354_4; replace hx354_5 := cB HB hx354_5; have HR354_3 := Aside0.mk hi354_3; have HC354_3 := Aside0.mk hl354_3; clear hi354_3 hl354_3; have HR354_4 := Aside0.mk hi354_4; have HC354_4 := Aside0.mk hl354_4; clear hi354_4 hl354_4; have HR354_5 := Aside0.mk hi354_5; have HC354_5 := Aside0.mk hl354_5; clear hi354_5 hl354_5) | ((with_reducible refine gate_callee (f := 93) rfl ?_); refine gl_ 18 Tryd.func93 (impl_copyInode.calls ((rd_T64 l0_0 t353).f0) ((rd_T64 l0_0 t353).f1) ((rd_T64 l0_0 t353).f2) _ _ ((rd_T64 l0_0 t353).f3) _ _ ((rd_T64 l0_0 t353).f4) _ _ ((rd_T64 l0_0 t353).f5) t355 t356 t357 t358 t361 t364 _ (kC HR354_3) HC354_3.out (kC HR354_4) HC354_4.out (kC HR354_5) HC354_5.out A13.out) ?_; rintro e w20 ⟨v359, v362, v365, rfl, ho0, ho1, ho2, hb⟩; refine ⟨_, rfl, ?_⟩; have HO360 := Aside0.mk (Kd.R_lower ho0 (below_size oB)); have HO363 := Aside0.mk (Kd.R_lower ho1 (below_size oB)); have HO366 := Aside0.mk (Kd.R_lower ho2 (below_size oB)); replace BK351 := kb_ BK351 hb; replace BK352 := kb_ BK352 hb; replace HB := Aside0.mk (below_step oB hb); (try clear ho1); (try clear ho2); obtain ⟨⟨_, _, _, _, _, _⟩, _, _, _, _, _, _⟩ := z6 BK352; obtain ⟨Ao22, co22, eo22⟩ := Kd.R_slice HO360.out; subst eo22; obtain ⟨Ao23, co23, eo23⟩ := Kd.R_slice HO363.out; subst eo23; obtain ⟨Ao24, co24, eo24⟩ := Kd.R_slice HO366.out; subst eo24))
    refine bodyPost_ret (results_ct rfl _ _ gb352 64 #[.int .i64 t355, .int .i64 t356, .int .i64 t357, .slice Ao22 t358.length co22, .slice Ao23 t361.length co23, .slice Ao24 t364.length co24] (0, 0) _ rfl (by (with_reducible repeat (first | refine blk_drewN ?_ _ | refine blk_drew ?_ | refine blk_alloc ?_ _)); refine blk_put (cs := #[.int .i64 t355, .int .i64 t356, .int .i64 t357, .slice Ao22 t358.length co22, .slice Ao23 t361.length co23, .slice none 0 0]) ?_ 5 _ rfl; (with_reducible repeat (first | refine blk_drewN ?_ _ | refine blk_drew ?_ | refine blk_alloc ?_ _)); refine blk_put (cs := #[.int .i64 t355, .int .i64 t356, .int .i64 t357, .slice Ao22 t358.length co22, .slice none 0 0, .slice none 0 0]) ?_ 4 _ rfl; (with_reducible repeat (first | refine blk_drewN ?_ _ | refine blk_drew ?_ | refine blk_alloc ?_ _)); refine blk_put (cs := #[.int .i64 t355, .int .i64 t356, .int .i64 t357, .slice none 0 0, .slice none 0 0, .slice none 0 0]) ?_ 3 _ rfl; (with_reducible repeat (first | refine blk_drewN ?_ _ | refine blk_drew ?_ | refine blk_alloc ?_ _)); refine blk_put (cs := #[.int .i64 t355, .int .i64 t356, .int .i64 0, .slice none 0 0, .slice none 0 0, .slice none 0 0]) ?_ 2 _ rfl; (with_reducible repeat (first | refine blk_drewN ?_ _ | refine blk_drew ?_ | refine blk_alloc ?_ _)); refine blk_put (cs := #[.int .i64 t355, .int .i64 0, .int .i64 0, .slice none 0 0, .slice none 0 0, .slice none 0 0]) ?_ 1 _ rfl; (with_reducible repeat (first | refine blk_drewN ?_ _ | refine blk_drew ?_ | refine blk_alloc ?_ _)); refine blk_put (cs := #[.int .i64 0, .int .i64 0, .int .i64 0, .slice none 0 0, .slice none 0 0, .slice none 0 0]) ?_ 0 _ rfl; (with_reducible repeat (first | refine blk_drewN ?_ _ | refine blk_drew ?_ | refine blk_alloc ?_ _)); exact BK352.out) Tryd.underlying64 rfl (by kernel_rfl)) rfl ?_
    exact ⟨_, _, _, oE, by (with_reducible repeat (first | apply Kd.R_alloc | apply Kd.R_drewN | apply Kd.R_drew)); exact Kd.R_mono (Kd.R_far (p := ⟨gb352, 5, none⟩) (Kd.R_far (p := ⟨gb352, 4, none⟩) (Kd.R_far (p := ⟨gb352, 3, none⟩) (Kd.R_far (p := ⟨gb352, 2, none⟩) (Kd.R_far (p := ⟨gb352, 1, none⟩) (Kd.R_far (p := ⟨gb352, 0, none⟩) (Kd.R_types HO360.out BK352.out (by decide)) (fun _ hk => hk.2) (.int .i64 t355)) (fun _ hk => hk.2) (.int .i64 t356)) (fun _ hk => hk.2) (.int .i64 t357)) (fun _ hk => hk.2) (.slice Ao22 t358.length co22)) (fun _ hk => hk.2) (.slice Ao23 t361.length co23)) (fun _ hk => hk.2) (.slice Ao24 t364.length co24)) (fun _ hk => trivial), by (with_reducible repeat (first | apply Kd.R_alloc | apply Kd.R_drewN | apply Kd.R_drew)); exact Kd.R_mono (Kd.R_far (p := ⟨gb352, 5, none⟩) (Kd.R_far (p := ⟨gb352, 4, none⟩) (Kd.R_far (p := ⟨gb352, 3, none⟩) (Kd.R_far (p := ⟨gb352, 2, none⟩) (Kd.R_far (p := ⟨gb352, 1, none⟩) (Kd.R_far (p := ⟨gb352, 0, none⟩) (Kd.R_types HO363.out BK352.out (by decide)) (fun _ hk => hk.2) (.int .i64 t355)) (fun _ hk => hk.2) (.int .i64 t356)) (fun _ hk => hk.2) (.int .i64 t357)) (fun _ hk => hk.2) (.slice Ao22 t358.length co22)) (fun _ hk => hk.2) (.slice Ao23 t361.length co23)) (fun _ hk => hk.2) (.slice Ao24 t364.length co24)) (fun _ hk => trivial), by (with_reducible repeat (first | apply Kd.R_alloc | apply Kd.R_drewN | apply Kd.R_drew)); exact Kd.R_mono (Kd.R_far (p := ⟨gb352, 5, none⟩) (Kd.R_far (p := ⟨gb352, 4, none⟩) (Kd.R_far (p := ⟨gb352, 3, none⟩) (Kd.R_far (p := ⟨gb352, 2, none⟩) (Kd.R_far (p := ⟨gb352, 1, none⟩) (Kd.R_far (p := ⟨gb352, 0, none⟩) (Kd.R_types HO366.out BK352.out (by decide)) (fun _ hk => hk.2) (.int .i64 t355)) (fun _ hk => hk.2) (.int .i64 t356)) (fun _ hk => hk.2) (.int .i64 t357)) (fun _ hk => hk.2) (.slice Ao22 t358.length co22)) (fun _ hk => hk.2) (.slice Ao23 t361.length co23)) (fun _ hk => hk.2) (.slice Ao24 t364.length co24)) (fun _ hk => trivial), oB⟩
   ·cases H
  ·cases H

/-! ### impl_EntOf: function 68 -/
def impl_EntOf.l0 : Nat → ByteArray → List (S91) → Int → Int → Option (Int)
 | 0, _, _, _, _ => none
 | k + 1, x1, x8, x9, x10 => if x10 < x9 then (if 0 ≤ x10 then (if x10 < (x8.length : Int) then (if ((rd_T91 x8 x10).f0).toList = x1.toList then (some ((rd_T91 x8 x10).f1)) else (impl_EntOf.l0 k x1 x8 x9 (wrap64 (x10 + 1)))) else (none)) else (none)) else (some 0)
def impl_EntOf.f (k : Nat) (a0_0 : Int) (a0_1 : Int) (a0_2 : Int) (l0_3 : List Int) (l0_4 : List (S91)) (l0_5 : List (S87)) (a1 : ByteArray) : Option (Int) := impl_EntOf.l0 k a1 l0_4 (l0_4.length : Int) 0
set_option maxHeartbeats 8000000 in
set_option maxRecDepth 100000 in
theorem impl_EntOf.calls (k : Nat) (a0_0 : Int) (a0_1 : Int) (a0_2 : Int) (A0_3 : Option Addr) (c0_3 : Nat) (l0_3 : List Int) (A0_4 : Option Addr) (c0_4 : Nat) (l0_4 : List (S91)) (A0_5 : Option Addr) (c0_5 : Nat) (l0_5 : List (S87)) (a1 : ByteArray) (r : Int) (w : World) (hr0_3 : Kd.C (Kd.int .u8) w A0_3 l0_3.length l0_3) (hc0_3 : l0_3.length ≤ c0_3) (hr0_4 : Kd.C k91 w A0_4 l0_4.length l0_4) (hc0_4 : l0_4.length ≤ c0_4) (hr0_5 : Kd.C k87 w A0_5 l0_5.length l0_5) (hc0_5 : l0_5.length ≤ c0_5) (h : impl_EntOf.f k a0_0 a0_1 a0_2 l0_3 l0_4 l0_5 a1 = some r) :
  Calls Tryd.prog 68 #[.agg #[.int .i64 a0_0, .int .i64 a0_1, .int .i64 a0_2, .slice A0_3 l0_3.length c0_3, .slice A0_4 l0_4.length c0_4, .slice A0_5 l0_5.length c0_5], .string a1] w fun e w' => e = .returned (.int .i64 r) ∧ Below w.heap.size w w' := by
 have hu64 := Tryd.underlying64
 have hu91 := Tryd.underlying91
 have HR0_3 := Aside0.mk hr0_3
 have HC0_3 := Aside0.mk hc0_3
 clear hr0_3 hc0_3
 have HR0_4 := Aside0.mk hr0_4
 have HC0_4 := Aside0.mk hc0_4
 clear hr0_4 hc0_4
 have HR0_5 := Aside0.mk hr0_5
 have HC0_5 := Aside0.mk hc0_5
 clear hr0_5 hc0_5
 have HB := Aside0.mk (Below.refl w.heap.size w)
 unfold impl_EntOf.f at h
 have H := h
 clear h
 have H' := Aside0.mk H
 clear H
 go_enter Tryd.func68, Tryd.ntmps68
 go_wp2_with (first | ((with_reducible refine gate_dst (N := 2) rfl ?_); refine bx_ 2 #[.int .i64 a0_0, .int .i64 a0_1, .int .i64 a0_2, .slice A0_3 l0_3.length c0_3, .slice A0_4 l0_4.length c0_4, .slice A0_5 l0_5.length c0_5] 64 ?_; intro gb367 hg w3 hbox hb; have BK367 := Aside0.mk (hbox); have GW367 := gs_ hg; have GE367 := gs_ hg; replace HB := Aside0.mk (below_step oB hb); clear hb hbox hg; obtain ⟨⟨_, _, _, _, _, _⟩, _, _, _, _, _, _⟩ := z6 BK367))
 go_loopg [10] k (fun kq v10 w' => ∃ (x10_1 : Int), v10 = .int .i64 x10_1 ∧ Aside0 (impl_EntOf.l0 kq a1 l0_4 (l0_4.length : Int) x10_1 = some r) ∧ Aside0 (kq ≤ k) ∧ Aside0 (w'.heap[gb367]? = some (.cells #[.int .i64 a0_0, .int .i64 a0_1, .int .i64 a0_2, (.slice A0_3 l0_3.length c0_3), (.slice A0_4 l0_4.length c0_4), (.slice A0_5 l0_5.length c0_5)] 64 (0, 0))) ∧ Aside0 (Below w.heap.size w w'))
 case atStart => exact ⟨(0), oS, H', ⟨Nat.le_refl _⟩, ⟨oF BK367⟩, ⟨oB⟩⟩
 case round =>
  clear H'
  obtain ⟨x10_1, rfl, HA, HK1, BK367, HB⟩ := hrel
  cases gk with
  | zero => exact absurd HA.out (by simp [impl_EntOf.l0])
  | succ k1 =>
   have H := HA.out
   clear HA
   simp only [impl_EntOf.l0] at H
   replace H := itD H
   rcases H with ⟨c5b0, H⟩ | ⟨c5b0, H⟩
   ·replace H := itD H
    rcases H with ⟨c6b0, H⟩ | ⟨c6b0, H⟩
    ·replace H := itD H
     rcases H with ⟨c7b0, H⟩ | ⟨c7b0, H⟩
     ·by_cases c8 : ((rd_T91 l0_4 x10_1).f0).toList = a1.toList
      ·rw [if_pos c8] at H
       have c8b0 : (((rd_T91 l0_4 x10_1).f0).toList == a1.toList) = true := beq_iff_eq.mpr c8
       have c8b1 : (((rd_T91 l0_4 x10_1).f0).toList != a1.toList) = false := bne_eq_false_iff_eq.mpr c8
       clear c8
       obtain rfl := Option.some.inj H
       have p368 : (0 ≤ (x10_1 : Int)) = True := oT
       have q368 : (x10_1 < (l0_4.length : Int)) = True := oT
       obtain ⟨ad368, e368, hx368_0, hx368_1⟩ := at_T91 HR0_4.out x10_1 oa oa
       cases e368
       replace hx368_0 := cB HB hx368_0
       replace hx368_1 := cB HB hx368_1
       go_wp2_with (first | ((with_reducible refine gate_dst (N := 6) rfl ?_); refine bx_ 6 #[.string (⟨#[]⟩ : ByteArray), .int .i64 0] 91 ?_; intro gb369 hg w9 hbox hb; have BK369 := Aside0.mk (hbox); have GW369 := gs_ hg; have GE369 := gs_ hg; have NB367_369 := nl_ hg BK367; have NB369_367 := nr_ hg BK367; replace BK367 := kb_ BK367 hb; replace HB := Aside0.mk (below_step oB hb); clear hb hbox hg; have hnb10 := NB369_367.out; have hnc10 := NB367_369.out; obtain ⟨⟨_, _⟩, _, _⟩ := z2 BK369))
       go_ret
       exact ⟨oE, oB⟩
      ·rw [if_neg c8] at H
       have c8b0 : (((rd_T91 l0_4 x10_1).f0).toList == a1.toList) = false := beq_eq_false_iff_ne.mpr c8
       have c8b1 : (((rd_T91 l0_4 x10_1).f0).toList != a1.toList) = true := bne_iff_ne.mpr c8
       have H' := Aside0.mk H
       clear H
       have p368 : (0 ≤ (x10_1 : Int)) = True := oT
       have q368 : (x10_1 < (l0_4.length : Int)) = True := oT
       obtain ⟨ad368, e368, hx368_0, hx368_1⟩ := at_T91 HR0_4.out x10_1 oa oa
       cases e368
       replace hx368_0 := cB HB hx368_0
       replace hx368_1 := cB HB hx368_1
       go_wp2_with (first | ((with_reducible refine gate_dst (N := 6) rfl ?_); refine bx_ 6 #[.string (⟨#[]⟩ : ByteArray), .int .i64 0] 91 ?_; intro gb369 hg w12 hbox hb; have BK369 := Aside0.mk (hbox); have GW369 := gs_ hg; have GE369 := gs_ hg; have NB367_369 := nl_ hg BK367; have NB369_367 := nr_ hg BK367; replace BK367 := kb_ BK367 hb; replace HB := Aside0.mk (below_step oB hb); clear hb hbox hg; have hnb13 := NB369_367.out; have hnc13 := NB367_369.out; obtain ⟨⟨_, _⟩, _, _⟩ := z2 BK369))
       go_roundg k1
       case measure => have := HK1.out; omega
       case rel => exact ⟨(wrap64 (x10_1 + 1)), oS, H', ⟨by have := HK1.out; omega⟩, ⟨by (with_reducible repeat (first | refine blk_drewN ?_ _ | refine blk_drew ?_ | refine blk_alloc ?_ _)); refine blk_far ?_ NB367_369.out _; (with_reducible repeat (first | refine blk_drewN ?_ _ | refine blk_drew ?_ | refine blk_alloc ?_ _)); refine blk_far ?_ NB367_369.out _; (with_reducible repeat (first | refine blk_drewN ?_ _ | refine blk_drew ?_ | refine blk_alloc ?_ _)); exact BK367.out⟩, ⟨oB⟩⟩
     ·cases H
    ·cases H
   ·obtain rfl := Option.some.inj H
    go_wp2
    go_ret
    exact ⟨oE, oB⟩

/-! ### impl_Walk: function 35 -/
def impl_Walk.l0 : Nat → Int → List ByteArray → Int → Int → List (S64) → Int → Option (Int × Int)
 | 0, _, _, _, _, _, _ => none
 | k + 1, x8, x20, x21, x22, x371000, x371001 => if x22 < x21 then (if 0 ≤ x22 then (if x22 < (x20.length : Int) then ((impl_InodeAt.f k x371000 x371001 x8).bind fun bt376 => (if bt376.2.2.2.2.2.2 = true then (if bt376.2.1 = 2 then ((impl_EntOf.f k bt376.1 bt376.2.1 bt376.2.2.1 bt376.2.2.2.1 bt376.2.2.2.2.1 bt376.2.2.2.2.2.1 (rdOf ByteArray.empty x20 x22)).bind fun t390 => (if t390 = 0 then (some (0, 2)) else (impl_Walk.l0 k t390 x20 x21 (wrap64 (x22 + 1)) x371000 x371001))) else (some (0, 3))) else (some (0, 2)))) else (none)) else (none)) else (some (x8, 0))
def impl_Walk.f (k : Nat) (l0_0 : List (S64)) (a0_1 : Int) (a1 : ByteArray) : Option (Int × Int) := (impl_SplitPath.f k a1).bind fun bt371 => (if bt371.2 = true then (impl_Walk.l0 k 1 bt371.1 (bt371.1.length : Int) 0 l0_0 a0_1) else (some (0, 1)))
set_option maxHeartbeats 8000000 in
set_option maxRecDepth 100000 in
theorem impl_Walk.calls (k : Nat) (A0_0 : Option Addr) (c0_0 : Nat) (l0_0 : List (S64)) (a0_1 : Int) (a1 : ByteArray) (r1 : Int) (r2 : Int) (w : World) (hr0_0 : Kd.C k64 w A0_0 l0_0.length l0_0) (hc0_0 : l0_0.length ≤ c0_0) (h : impl_Walk.f k l0_0 a0_1 a1 = some (r1, r2)) (hG : GOk w := by exact gk_ oB (by first | (with_reducible assumption) | assumption)) :
  Calls Tryd.prog 35 #[.agg #[.slice A0_0 l0_0.length c0_0, .int .i64 a0_1], .string a1] w fun e w' => e = .returned (.tuple #[.int .i64 r1, .int .i64 r2]) ∧ Below w.heap.size w w' := by
 have HG := Aside0.mk hG
 clear hG
 have hu46 := Tryd.underlying46
 have hu64 := Tryd.underlying64
 have HR0_0 := Aside0.mk hr0_0
 have HC0_0 := Aside0.mk hc0_0
 clear hr0_0 hc0_0
 have HB := Aside0.mk (Below.refl w.heap.size w)
 unfold impl_Walk.f at h
 have H := h
 clear h
 replace H := bA H
 obtain ⟨⟨t371, t372⟩, A3, H⟩ := H
 try dsimp only at H
 replace H := itB H
 rcases H with ⟨rfl, H⟩ | ⟨rfl, H⟩
 ·have H' := Aside0.mk H
  clear H
  go_enter Tryd.func35, Tryd.ntmps35
  go_wp2_with (first | ((with_reducible refine gate_dst (N := 2) rfl ?_); refine bx_ 2 #[.slice A0_0 l0_0.length c0_0, .int .i64 a0_1] 46 ?_; intro gb370 hg w5 hbox hb; have BK370 := Aside0.mk (hbox); have GW370 := gs_ hg; have GE370 := gs_ hg; replace HB := Aside0.mk (below_step oB hb); clear hb hbox hg) | ((with_reducible refine gate_callee (f := 17) rfl ?_); refine gl_ 15 Tryd.func17 (impl_SplitPath.calls k a1 t371 true _ A3.out) ?_; rintro e w6 ⟨v373, rfl, ho0, hb⟩; refine ⟨_, rfl, ?_⟩; have HO374 := Aside0.mk (Kd.Q_lower ho0 (below_size oB)); replace BK370 := kb_ BK370 hb; replace HB := Aside0.mk (below_step oB hb); obtain ⟨Ao7, co7, eo7, _⟩ := Kd.Q_slice HO374.out; subst eo7))
  go_loopg [8, 22] k (fun kq v8 v22 w' => ∃ (x8_1 : Int) (x22_1 : Int), v8 = .int .i64 x8_1 ∧ v22 = .int .i64 x22_1 ∧ Aside0 (impl_Walk.l0 kq x8_1 t371 (t371.length : Int) x22_1 l0_0 a0_1 = some (r1, r2)) ∧ Aside0 (kq ≤ k) ∧ Aside0 (Kd.Q Kd.string 9 w' w.heap.size (fun _ => True) (.slice Ao7 t371.length co7) t371) ∧ Aside0 (w'.heap[gb370]? = some (.cells #[(.slice A0_0 l0_0.length c0_0), .int .i64 a0_1] 46 (0, 0))) ∧ Aside0 (Below w.heap.size w w'))
  case atStart => exact ⟨(1), (0), oS, oS, H', ⟨Nat.le_refl _⟩, ⟨by (with_reducible repeat (first | apply Kd.Q_alloc | apply Kd.Q_drewN | apply Kd.Q_drew)); exact HO374.out⟩, ⟨oF BK370⟩, ⟨oB⟩⟩
  case round =>
   clear H'
   obtain ⟨x8_1, x22_1, rfl, rfl, HA, HK1, HO_20, BK370, HB⟩ := hrel
   cases gk with
   | zero => exact absurd HA.out (by simp [impl_Walk.l0])
   | succ k1 =>
    have H := HA.out
    clear HA
    simp only [impl_Walk.l0] at H
    replace H := itD H
    rcases H with ⟨c8b0, H⟩ | ⟨c8b0, H⟩
    ·replace H := itD H
     rcases H with ⟨c9b0, H⟩ | ⟨c9b0, H⟩
     ·replace H := itD H
      rcases H with ⟨c10b0, H⟩ | ⟨c10b0, H⟩
      ·replace H := bA H
       obtain ⟨⟨t376, t377, t378, t379, t382, t385, t388⟩, A11, H⟩ := H
       try dsimp only at H
       replace H := itB H
       rcases H with ⟨rfl, H⟩ | ⟨rfl, H⟩
       ·by_cases c13 : t377 = 2
        ·rw [if_pos c13] at H
         have c13b0 : (t377 == 2) = true := beq_iff_eq.mpr c13
         have c13b1 : (t377 != 2) = false := bne_eq_false_iff_eq.mpr c13
         clear c13
         replace H := bA H
         obtain ⟨t390, A14, H⟩ := H
         try dsimp only at H
         by_cases c15 : t390 = 0
         ·rw [if_pos c15] at H
          have c15b0 : (t390 == 0) = true := beq_iff_eq.mpr c15
          have c15b1 : (t390 != 0) = false := bne_eq_false_iff_eq.mpr c15
          clear c15
          simp only [Option.some.injEq, Prod.mk.injEq] at H
          obtain ⟨rfl, rfl⟩ := H
          have p375 : (0 ≤ (x22_1 : Int)) = True := oT
          have q375 : (x22_1 < (t371.length : Int)) = True := oT
          obtain ⟨ad375, e375, hx375_0⟩ := Kd.at_string (Kd.Q_reads' HO_20.out).2.2 x22_1 oa oa
          cases e375
          obtain ⟨⟨_, _⟩, _, _⟩ := z2 BK370
          go_wp2_with (first | ((with_reducible refine gate_callee (f := 67) rfl ?_); refine gl_ 29 Tryd.func67 (impl_InodeAt.calls k1 _ _ l0_0 a0_1 x8_1 t376 t377 t378 t379 t382 t385 true _ (kC HR0_0) HC0_0.out A11.out) ?_; rintro e w17 ⟨v380, v383, v386, rfl, ho0, ho1, ho2, hb⟩; refine ⟨_, rfl, ?_⟩; have HO381 := Aside0.mk (Kd.R_lower ho0 (below_size oB)); have HO384 := Aside0.mk (Kd.R_lower ho1 (below_size oB)); have HO387 := Aside0.mk (Kd.R_lower ho2 (below_size oB)); replace HO_20 := Aside0.mk (Kd.Q_below (by (with_reducible repeat (first | apply Kd.Q_alloc | apply Kd.Q_drewN | apply Kd.Q_drew)); exact HO_20.out) hb); replace BK370 := kb_ BK370 hb; replace HB := Aside0.mk (below_step oB hb); (try clear ho1); (try clear ho2)) | ((with_reducible refine gate_dst (N := 11) rfl ?_); refine bx_ 11 #[.int .i64 0, .int .i64 0, .int .i64 0, .slice none 0 0, .slice none 0 0, .slice none 0 0] 64 ?_; intro gb389 hg w18 hbox hb; have BK389 := Aside0.mk (hbox); have GW389 := gs_ hg; have GE389 := gs_ hg; have NB370_389 := nl_ hg BK370; have NB389_370 := nr_ hg BK370; replace HO_20 := Aside0.mk (Kd.Q_below (by (with_reducible repeat (first | apply Kd.Q_alloc | apply Kd.Q_drewN | apply Kd.Q_drew)); exact HO_20.out) hb); replace HO381 := kr_ HO381 hb; replace HO384 := kr_ HO384 hb; replace HO387 := kr_ HO387 hb; replace BK370 := kb_ BK370 hb; replace HB := Aside0.mk (below_step oB hb); clear hb hbox hg; have hnb19 := NB389_370.out; have hnc19 := NB370_389.out; obtain ⟨⟨_, _, _, _, _, _⟩, _, _, _, _, _, _⟩ := z6 BK389; obtain ⟨Ao21, co21, eo21⟩ := Kd.R_slice HO381.out; subst eo21; obtain ⟨Ao22, co22, eo22⟩ := Kd.R_slice HO384.out; subst eo22; obtain ⟨Ao23, co23, eo23⟩ := Kd.R_slice HO387.out; subst eo23) | ((with_reducible refine gate_callee (f := 68) rfl ?_); refine gl_ 41 Tryd.func68 (impl_EntOf.calls k1 t376 t377 t378 _ _ t379 _ _ t382 _ _ t385 (rdOf ByteArray.empty t371 x22_1) t390 _ ?side1 (ko HO381) ?side3 (ko HO384) ?side5 (ko HO387) A14.out) ?_; (case side1 => refine (Kd.R_reads' (e := 5) (base := w.heap.size) (ok := fun k_ => True) (n := t379.length) (c := co21) ?_).2.2; exact (by (with_reducible repeat (first | apply Kd.R_alloc | apply Kd.R_drewN | apply Kd.R_drew)); exact (Kd.R_mono (Kd.R_far (p := ⟨gb389, 5, none⟩) (Kd.R_far (p := ⟨gb389, 4, none⟩) (Kd.R_far (p := ⟨gb389, 3, none⟩) (Kd.R_far (p := ⟨gb389, 2, none⟩) (Kd.R_far (p := ⟨gb389, 1, none⟩) (Kd.R_far (p := ⟨gb389, 0, none⟩) (Kd.R_types HO381.out BK389.out (by decide)) (fun _ hk => hk.2) (.int .i64 t376)) (fun _ hk => hk.2) (.int .i64 t377)) (fun _ hk => hk.2) (.int .i64 t378)) (fun _ hk => hk.2) (.slice Ao21 t379.length co21)) (fun _ hk => hk.2) (.slice Ao22 t382.length co22)) (fun _ hk => hk.2) (.slice Ao23 t385.length co23)) (fun _ h_ => h_.1)))); (case side3 => refine (Kd.R_reads' (e := 91) (base := w.heap.size) (ok := fun k_ => True) (n := t382.length) (c := co22) ?_).2.2; exact (by (with_reducible repeat (first | apply Kd.R_alloc | apply Kd.R_drewN | apply Kd.R_drew)); exact (Kd.R_mono (Kd.R_far (p := ⟨gb389, 5, none⟩) (Kd.R_far (p := ⟨gb389, 4, none⟩) (Kd.R_far (p := ⟨gb389, 3, none⟩) (Kd.R_far (p := ⟨gb389, 2, none⟩) (Kd.R_far (p := ⟨gb389, 1, none⟩) (Kd.R_far (p := ⟨gb389, 0, none⟩) (Kd.R_types HO384.out BK389.out (by decide)) (fun _ hk => hk.2) (.int .i64 t376)) (fun _ hk => hk.2) (.int .i64 t377)) (fun _ hk => hk.2) (.int .i64 t378)) (fun _ hk => hk.2) (.slice Ao21 t379.length co21)) (fun _ hk => hk.2) (.slice Ao22 t382.length co22)) (fun _ hk => hk.2) (.slice Ao23 t385.length co23)) (fun _ h_ => h_.1)))); (case side5 => refine (Kd.R_reads' (e := 87) (base := w.heap.size) (ok := fun k_ => True) (n := t385.length) (c := co23) ?_).2.2; exact (by (with_reducible repeat (first | apply Kd.R_alloc | apply Kd.R_drewN | apply Kd.R_drew)); exact (Kd.R_mono (Kd.R_far (p := ⟨gb389, 5, none⟩) (Kd.R_far (p := ⟨gb389, 4, none⟩) (Kd.R_far (p := ⟨gb389, 3, none⟩) (Kd.R_far (p := ⟨gb389, 2, none⟩) (Kd.R_far (p := ⟨gb389, 1, none⟩) (Kd.R_far (p := ⟨gb389, 0, none⟩) (Kd.R_types HO387.out BK389.out (by decide)) (fun _ hk => hk.2) (.int .i64 t376)) (fun _ hk => hk.2) (.int .i64 t377)) (fun _ hk => hk.2) (.int .i64 t378)) (fun _ hk => hk.2) (.slice Ao21 t379.length co21)) (fun _ hk => hk.2) (.slice Ao22 t382.length co22)) (fun _ hk => hk.2) (.slice Ao23 t385.length co23)) (fun _ h_ => h_.1)))); rintro e w24 ⟨rfl, hb⟩; refine ⟨_, rfl, ?_⟩; replace HO_20 := Aside0.mk (Kd.Q_below (by (with_reducible repeat (first | apply Kd.Q_alloc | apply Kd.Q_drewN | apply Kd.Q_drew)); exact (Kd.Q_mono (Kd.Q_far (p := ⟨gb389, 5, none⟩) (Kd.Q_far (p := ⟨gb389, 4, none⟩) (Kd.Q_far (p := ⟨gb389, 3, none⟩) (Kd.Q_far (p := ⟨gb389, 2, none⟩) (Kd.Q_far (p := ⟨gb389, 1, none⟩) (Kd.Q_far (p := ⟨gb389, 0, none⟩) (Kd.Q_types HO_20.out BK389.out (by decide)) (fun _ hk => hk.2) (.int .i64 t376)) (fun _ hk => hk.2) (.int .i64 t377)) (fun _ hk => hk.2) (.int .i64 t378)) (fun _ hk => hk.2) (.slice Ao21 t379.length co21)) (fun _ hk => hk.2) (.slice Ao22 t382.length co22)) (fun _ hk => hk.2) (.slice Ao23 t385.length co23)) (fun _ h_ => h_.1))) hb); replace HO381 := Aside0.mk (Kd.R_below (by (with_reducible repeat (first | apply Kd.R_alloc | apply Kd.R_drewN | apply Kd.R_drew)); exact (Kd.R_mono (Kd.R_far (p := ⟨gb389, 5, none⟩) (Kd.R_far (p := ⟨gb389, 4, none⟩) (Kd.R_far (p := ⟨gb389, 3, none⟩) (Kd.R_far (p := ⟨gb389, 2, none⟩) (Kd.R_far (p := ⟨gb389, 1, none⟩) (Kd.R_far (p := ⟨gb389, 0, none⟩) (Kd.R_types HO381.out BK389.out (by decide)) (fun _ hk => hk.2) (.int .i64 t376)) (fun _ hk => hk.2) (.int .i64 t377)) (fun _ hk => hk.2) (.int .i64 t378)) (fun _ hk => hk.2) (.slice Ao21 t379.length co21)) (fun _ hk => hk.2) (.slice Ao22 t382.length co22)) (fun _ hk => hk.2) (.slice Ao23 t385.length co23)) (fun _ h_ => h_.1))) hb); replace HO384 := Aside0.mk (Kd.R_below (by (with_reducible repeat (first | apply Kd.R_alloc | apply Kd.R_drewN | apply Kd.R_drew)); exact (Kd.R_mono (Kd.R_far (p := ⟨gb389, 5, none⟩) (Kd.R_far (p := ⟨gb389, 4, none⟩) (Kd.R_far (p := ⟨gb389, 3, none⟩) (Kd.R_far (p := ⟨gb389, 2, none⟩) (Kd.R_far (p := ⟨gb389, 1, none⟩) (Kd.R_far (p := ⟨gb389, 0, none⟩) (Kd.R_types HO384.out BK389.out (by decide)) (fun _ hk => hk.2) (.int .i64 t376)) (fun _ hk => hk.2) (.int .i64 t377)) (fun _ hk => hk.2) (.int .i64 t378)) (fun _ hk => hk.2) (.slice Ao21 t379.length co21)) (fun _ hk => hk.2) (.slice Ao22 t382.length co22)) (fun _ hk => hk.2) (.slice Ao23 t385.length co23)) (fun _ h_ => h_.1))) hb); replace HO387 := Aside0.mk (Kd.R_below (by (with_reducible repeat (first | apply Kd.R_alloc | apply Kd.R_drewN | apply Kd.R_drew)); exact (Kd.R_mono (Kd.R_far (p := ⟨gb389, 5, none⟩) (Kd.R_far (p := ⟨gb389, 4, none⟩) (Kd.R_far (p := ⟨gb389, 3, none⟩) (Kd.R_far (p := ⟨gb389, 2, none⟩) (Kd.R_far (p := ⟨gb389, 1, none⟩) (Kd.R_far (p := ⟨gb389, 0, none⟩) (Kd.R_types HO387.out BK389.out (by decide)) (fun _ hk => hk.2) (.int .i64 t376)) (fun _ hk => hk.2) (.int .i64 t377)) (fun _ hk => hk.2) (.int .i64 t378)) (fun _ hk => hk.2) (.slice Ao21 t379.length co21)) (fun _ hk => hk.2) (.slice Ao22 t382.length co22)) (fun _ hk => hk.2) (.slice Ao23 t385.length co23)) (fun _ h_ => h_.1))) hb); replace BK370 := Aside0.mk (blk_below (g := gb370) (o := .cells #[.slice A0_0 l0_0.length c0_0, .int .i64 a0_1] 46 (0, 0)) (by (with_reducible repeat (first | refine blk_drewN ?_ _ | refine blk_drew ?_ | refine blk_alloc ?_ _)); refine blk_far ?_ NB370_389.out _; (with_reducible repeat (first | refine blk_drewN ?_ _ | refine blk_drew ?_ | refine blk_alloc ?_ _)); refine blk_far ?_ NB370_389.out _; (with_reducible repeat (first | refine blk_drewN ?_ _ | refine blk_drew ?_ | refine blk_alloc ?_ _)); refine blk_far ?_ NB370_389.out _; (with_reducible repeat (first | refine blk_drewN ?_ _ | refine blk_drew ?_ | refine blk_alloc ?_ _)); refine blk_far ?_ NB370_389.out _; (with_reducible repeat (first | refine blk_drewN ?_ _ | refine blk_drew ?_ | refine blk_alloc ?_ _)); refine blk_far ?_ NB370_389.out _; (with_reducible repeat (first | refine blk_drewN ?_ _ | refine blk_drew ?_ | refine blk_alloc ?_ _)); refine blk_far ?_ NB370_389.out _; (with_reducible repeat (first | refine blk_drewN ?_ _ | refine blk_drew ?_ | refine blk_alloc ?_ _)); exact BK370.out) hb); replace BK389 := Aside0.mk (blk_below (g := gb389) (o := .cells #[.int .i64 t376, .int .i64 t377, .int .i64 t378, .slice Ao21 t379.length co21, .slice Ao22 t382.length co22, .slice Ao23 t385.length co23] 64 (0, 0)) (by (with_reducible repeat (first | refine blk_drewN ?_ _ | refine blk_drew ?_ | refine blk_alloc ?_ _)); refine blk_put (cs := #[.int .i64 t376, .int .i64 t377, .int .i64 t378, .slice Ao21 t379.length co21, .slice Ao22 t382.length co22, .slice none 0 0]) ?_ 5 _ rfl; (with_reducible repeat (first | refine blk_drewN ?_ _ | refine blk_drew ?_ | refine blk_alloc ?_ _)); refine blk_put (cs := #[.int .i64 t376, .int .i64 t377, .int .i64 t378, .slice Ao21 t379.length co21, .slice none 0 0, .slice none 0 0]) ?_ 4 _ rfl; (with_reducible repeat (first | refine blk_drewN ?_ _ | refine blk_drew ?_ | refine blk_alloc ?_ _)); refine blk_put (cs := #[.int .i64 t376, .int .i64 t377, .int .i64 t378, .slice none 0 0, .slice none 0 0, .slice none 0 0]) ?_ 3 _ rfl; (with_reducible repeat (first | refine blk_drewN ?_ _ | refine blk_drew ?_ | refine blk_alloc ?_ _)); refine blk_put (cs := #[.int .i64 t376, .int .i64 t377, .int .i64 0, .slice none 0 0, .slice none 0 0, .slice none 0 0]) ?_ 2 _ rfl; (with_reducible repeat (first | refine blk_drewN ?_ _ | refine blk_drew ?_ | refine blk_alloc ?_ _)); refine blk_put (cs := #[.int .i64 t376, .int .i64 0, .int .i64 0, .slice none 0 0, .slice none 0 0, .slice none 0 0]) ?_ 1 _ rfl; (with_reducible repeat (first | refine blk_drewN ?_ _ | refine blk_drew ?_ | refine blk_alloc ?_ _)); refine blk_put (cs := #[.int .i64 0, .int .i64 0, .int .i64 0, .slice none 0 0, .slice none 0 0, .slice none 0 0]) ?_ 0 _ rfl; (with_reducible repeat (first | refine blk_drewN ?_ _ | refine blk_drew ?_ | refine blk_alloc ?_ _)); exact BK389.out) hb); replace HB := Aside0.mk (below_step oB hb); (try clear hk)))
          go_ret2
          exact ⟨oE, oB⟩
         ·rw [if_neg c15] at H
          have c15b0 : (t390 == 0) = false := beq_eq_false_iff_ne.mpr c15
          have c15b1 : (t390 != 0) = true := bne_iff_ne.mpr c15
          have H' := Aside0.mk H
          clear H
          have p375 : (0 ≤ (x22_1 : Int)) = True := oT
          have q375 : (x22_1 < (t371.length : Int)) = True := oT
          obtain ⟨ad375, e375, hx375_0⟩ := Kd.at_string (Kd.Q_reads' HO_20.out).2.2 x22_1 oa oa
          cases e375
          obtain ⟨⟨_, _⟩, _, _⟩ := z2 BK370
          go_wp2_with (first | ((with_reducible refine gate_callee (f := 67) rfl ?_); refine gl_ 29 Tryd.func67 (impl_InodeAt.calls k1 _ _ l0_0 a0_1 x8_1 t376 t377 t378 t379 t382 t385 true _ (kC HR0_0) HC0_0.out A11.out) ?_; rintro e w26 ⟨v380, v383, v386, rfl, ho0, ho1, ho2, hb⟩; refine ⟨_, rfl, ?_⟩; have HO381 := Aside0.mk (Kd.R_lower ho0 (below_size oB)); have HO384 := Aside0.mk (Kd.R_lower ho1 (below_size oB)); have HO387 := Aside0.mk (Kd.R_lower ho2 (below_size oB)); replace HO_20 := Aside0.mk (Kd.Q_below (by (with_reducible repeat (first | apply Kd.Q_alloc | apply Kd.Q_drewN | apply Kd.Q_drew)); exact HO_20.out) hb); replace BK370 := kb_ BK370 hb; replace HB := Aside0.mk (below_step oB hb); (try clear ho1); (try clear ho2)) | ((with_reducible refine gate_dst (N := 11) rfl ?_); refine bx_ 11 #[.int .i64 0, .int .i64 0, .int .i64 0, .slice none 0 0, .slice none 0 0, .slice none 0 0] 64 ?_; intro gb389 hg w27 hbox hb; have BK389 := Aside0.mk (hbox); have GW389 := gs_ hg; have GE389 := gs_ hg; have NB370_389 := nl_ hg BK370; have NB389_370 := nr_ hg BK370; replace HO_20 := Aside0.mk (Kd.Q_below (by (with_reducible repeat (first | apply Kd.Q_alloc | apply Kd.Q_drewN | apply Kd.Q_drew)); exact HO_20.out) hb); replace HO381 := kr_ HO381 hb; replace HO384 := kr_ HO384 hb; replace HO387 := kr_ HO387 hb; replace BK370 := kb_ BK370 hb; replace HB := Aside0.mk (below_step oB hb); clear hb hbox hg; have hnb28 := NB389_370.out; have hnc28 := NB370_389.out; obtain ⟨⟨_, _, _, _, _, _⟩, _, _, _, _, _, _⟩ := z6 BK389; obtain ⟨Ao30, co30, eo30⟩ := Kd.R_slice HO381.out; subst eo30; obtain ⟨Ao31, co31, eo31⟩ := Kd.R_slice HO384.out; subst eo31; obtain ⟨Ao32, co32, eo32⟩ := Kd.R_slice HO387.out; subst eo32) | ((with_reducible refine gate_callee (f := 68) rfl ?_); refine gl_ 41 Tryd.func68 (impl_EntOf.calls k1 t376 t377 t378 _ _ t379 _ _ t382 _ _ t385 (rdOf ByteArray.empty t371 x22_1) t390 _ ?side1 (ko HO381) ?side3 (ko HO384) ?side5 (ko HO387) A14.out) ?_; (case side1 => refine (Kd.R_reads' (e := 5) (base := w.heap.size) (ok := fun k_ => True) (n := t379.length) (c := co30) ?_).2.2; exact (by (with_reducible repeat (first | apply Kd.R_alloc | apply Kd.R_drewN | apply Kd.R_drew)); exact (Kd.R_mono (Kd.R_far (p := ⟨gb389, 5, none⟩) (Kd.R_far (p := ⟨gb389, 4, none⟩) (Kd.R_far (p := ⟨gb389, 3, none⟩) (Kd.R_far (p := ⟨gb389, 2, none⟩) (Kd.R_far (p := ⟨gb389, 1, none⟩) (Kd.R_far (p := ⟨gb389, 0, none⟩) (Kd.R_types HO381.out BK389.out (by decide)) (fun _ hk => hk.2) (.int .i64 t376)) (fun _ hk => hk.2) (.int .i64 t377)) (fun _ hk => hk.2) (.int .i64 t378)) (fun _ hk => hk.2) (.slice Ao30 t379.length co30)) (fun _ hk => hk.2) (.slice Ao31 t382.length co31)) (fun _ hk => hk.2) (.slice Ao32 t385.length co32)) (fun _ h_ => h_.1)))); (case side3 => refine (Kd.R_reads' (e := 91) (base := w.heap.size) (ok := fun k_ => True) (n := t382.length) (c := co31) ?_).2.2; exact (by (with_reducible repeat (first | apply Kd.R_alloc | apply Kd.R_drewN | apply Kd.R_drew)); exact (Kd.R_mono (Kd.R_far (p := ⟨gb389, 5, none⟩) (Kd.R_far (p := ⟨gb389, 4, none⟩) (Kd.R_far (p := ⟨gb389, 3, none⟩) (Kd.R_far (p := ⟨gb389, 2, none⟩) (Kd.R_far (p := ⟨gb389, 1, none⟩) (Kd.R_far (p := ⟨gb389, 0, none⟩) (Kd.R_types HO384.out BK389.out (by decide)) (fun _ hk => hk.2) (.int .i64 t376)) (fun _ hk => hk.2) (.int .i64 t377)) (fun _ hk => hk.2) (.int .i64 t378)) (fun _ hk => hk.2) (.slice Ao30 t379.length co30)) (fun _ hk => hk.2) (.slice Ao31 t382.length co31)) (fun _ hk => hk.2) (.slice Ao32 t385.length co32)) (fun _ h_ => h_.1)))); (case side5 => refine (Kd.R_reads' (e := 87) (base := w.heap.size) (ok := fun k_ => True) (n := t385.length) (c := co32) ?_).2.2; exact (by (with_reducible repeat (first | apply Kd.R_alloc | apply Kd.R_drewN | apply Kd.R_drew)); exact (Kd.R_mono (Kd.R_far (p := ⟨gb389, 5, none⟩) (Kd.R_far (p := ⟨gb389, 4, none⟩) (Kd.R_far (p := ⟨gb389, 3, none⟩) (Kd.R_far (p := ⟨gb389, 2, none⟩) (Kd.R_far (p := ⟨gb389, 1, none⟩) (Kd.R_far (p := ⟨gb389, 0, none⟩) (Kd.R_types HO387.out BK389.out (by decide)) (fun _ hk => hk.2) (.int .i64 t376)) (fun _ hk => hk.2) (.int .i64 t377)) (fun _ hk => hk.2) (.int .i64 t378)) (fun _ hk => hk.2) (.slice Ao30 t379.length co30)) (fun _ hk => hk.2) (.slice Ao31 t382.length co31)) (fun _ hk => hk.2) (.slice Ao32 t385.length co32)) (fun _ h_ => h_.1)))); rintro e w33 ⟨rfl, hb⟩; refine ⟨_, rfl, ?_⟩; replace HO_20 := Aside0.mk (Kd.Q_below (by (with_reducible repeat (first | apply Kd.Q_alloc | apply Kd.Q_drewN | apply Kd.Q_drew)); exact (Kd.Q_mono (Kd.Q_far (p := ⟨gb389, 5, none⟩) (Kd.Q_far (p := ⟨gb389, 4, none⟩) (Kd.Q_far (p := ⟨gb389, 3, none⟩) (Kd.Q_far (p := ⟨gb389, 2, none⟩) (Kd.Q_far (p := ⟨gb389, 1, none⟩) (Kd.Q_far (p := ⟨gb389, 0, none⟩) (Kd.Q_types HO_20.out BK389.out (by decide)) (fun _ hk => hk.2) (.int .i64 t376)) (fun _ hk => hk.2) (.int .i64 t377)) (fun _ hk => hk.2) (.int .i64 t378)) (fun _ hk => hk.2) (.slice Ao30 t379.length co30)) (fun _ hk => hk.2) (.slice Ao31 t382.length co31)) (fun _ hk => hk.2) (.slice Ao32 t385.length co32)) (fun _ h_ => h_.1))) hb); replace HO381 := Aside0.mk (Kd.R_below (by (with_reducible repeat (first | apply Kd.R_alloc | apply Kd.R_drewN | apply Kd.R_drew)); exact (Kd.R_mono (Kd.R_far (p := ⟨gb389, 5, none⟩) (Kd.R_far (p := ⟨gb389, 4, none⟩) (Kd.R_far (p := ⟨gb389, 3, none⟩) (Kd.R_far (p := ⟨gb389, 2, none⟩) (Kd.R_far (p := ⟨gb389, 1, none⟩) (Kd.R_far (p := ⟨gb389, 0, none⟩) (Kd.R_types HO381.out BK389.out (by decide)) (fun _ hk => hk.2) (.int .i64 t376)) (fun _ hk => hk.2) (.int .i64 t377)) (fun _ hk => hk.2) (.int .i64 t378)) (fun _ hk => hk.2) (.slice Ao30 t379.length co30)) (fun _ hk => hk.2) (.slice Ao31 t382.length co31)) (fun _ hk => hk.2) (.slice Ao32 t385.length co32)) (fun _ h_ => h_.1))) hb); replace HO384 := Aside0.mk (Kd.R_below (by (with_reducible repeat (first | apply Kd.R_alloc | apply Kd.R_drewN | apply Kd.R_drew)); exact (Kd.R_mono (Kd.R_far (p := ⟨gb389, 5, none⟩) (Kd.R_far (p := ⟨gb389, 4, none⟩) (Kd.R_far (p := ⟨gb389, 3, none⟩) (Kd.R_far (p := ⟨gb389, 2, none⟩) (Kd.R_far (p := ⟨gb389, 1, none⟩) (Kd.R_far (p := ⟨gb389, 0, none⟩) (Kd.R_types HO384.out BK389.out (by decide)) (fun _ hk => hk.2) (.int .i64 t376)) (fun _ hk => hk.2) (.int .i64 t377)) (fun _ hk => hk.2) (.int .i64 t378)) (fun _ hk => hk.2) (.slice Ao30 t379.length co30)) (fun _ hk => hk.2) (.slice Ao31 t382.length co31)) (fun _ hk => hk.2) (.slice Ao32 t385.length co32)) (fun _ h_ => h_.1))) hb); replace HO387 := Aside0.mk (Kd.R_below (by (with_reducible repeat (first | apply Kd.R_alloc | apply Kd.R_drewN | apply Kd.R_drew)); exact (Kd.R_mono (Kd.R_far (p := ⟨gb389, 5, none⟩) (Kd.R_far (p := ⟨gb389, 4, none⟩) (Kd.R_far (p := ⟨gb389, 3, none⟩) (Kd.R_far (p := ⟨gb389, 2, none⟩) (Kd.R_far (p := ⟨gb389, 1, none⟩) (Kd.R_far (p := ⟨gb389, 0, none⟩) (Kd.R_types HO387.out BK389.out (by decide)) (fun _ hk => hk.2) (.int .i64 t376)) (fun _ hk => hk.2) (.int .i64 t377)) (fun _ hk => hk.2) (.int .i64 t378)) (fun _ hk => hk.2) (.slice Ao30 t379.length co30)) (fun _ hk => hk.2) (.slice Ao31 t382.length co31)) (fun _ hk => hk.2) (.slice Ao32 t385.length co32)) (fun _ h_ => h_.1))) hb); replace BK370 := Aside0.mk (blk_below (g := gb370) (o := .cells #[.slice A0_0 l0_0.length c0_0, .int .i64 a0_1] 46 (0, 0)) (by (with_reducible repeat (first | refine blk_drewN ?_ _ | refine blk_drew ?_ | refine blk_alloc ?_ _)); refine blk_far ?_ NB370_389.out _; (with_reducible repeat (first | refine blk_drewN ?_ _ | refine blk_drew ?_ | refine blk_alloc ?_ _)); refine blk_far ?_ NB370_389.out _; (with_reducible repeat (first | refine blk_drewN ?_ _ | refine blk_drew ?_ | refine blk_alloc ?_ _)); refine blk_far ?_ NB370_389.out _; (with_reducible repeat (first | refine blk_drewN ?_ _ | refine blk_drew ?_ | refine blk_alloc ?_ _)); refine blk_far ?_ NB370_389.out _; (with_reducible repeat (first | refine blk_drewN ?_ _ | refine blk_drew ?_ | refine blk_alloc ?_ _)); refine blk_far ?_ NB370_389.out _; (with_reducible repeat (first | refine blk_drewN ?_ _ | refine blk_drew ?_ | refine blk_alloc ?_ _)); refine blk_far ?_ NB370_389.out _; (with_reducible repeat (first | refine blk_drewN ?_ _ | refine blk_drew ?_ | refine blk_alloc ?_ _)); exact BK370.out) hb); replace BK389 := Aside0.mk (blk_below (g := gb389) (o := .cells #[.int .i64 t376, .int .i64 t377, .int .i64 t378, .slice Ao30 t379.length co30, .slice Ao31 t382.length co31, .slice Ao32 t385.length co32] 64 (0, 0)) (by (with_reducible repeat (first | refine blk_drewN ?_ _ | refine blk_drew ?_ | refine blk_alloc ?_ _)); refine blk_put (cs := #[.int .i64 t376, .int .i64 t377, .int .i64 t378, .slice Ao30 t379.length co30, .slice Ao31 t382.length co31, .slice none 0 0]) ?_ 5 _ rfl; (with_reducible repeat (first | refine blk_drewN ?_ _ | refine blk_drew ?_ | refine blk_alloc ?_ _)); refine blk_put (cs := #[.int .i64 t376, .int .i64 t377, .int .i64 t378, .slice Ao30 t379.length co30, .slice none 0 0, .slice none 0 0]) ?_ 4 _ rfl; (with_reducible repeat (first | refine blk_drewN ?_ _ | refine blk_drew ?_ | refine blk_alloc ?_ _)); refine blk_put (cs := #[.int .i64 t376, .int .i64 t377, .int .i64 t378, .slice none 0 0, .slice none 0 0, .slice none 0 0]) ?_ 3 _ rfl; (with_reducible repeat (first | refine blk_drewN ?_ _ | refine blk_drew ?_ | refine blk_alloc ?_ _)); refine blk_put (cs := #[.int .i64 t376, .int .i64 t377, .int .i64 0, .slice none 0 0, .slice none 0 0, .slice none 0 0]) ?_ 2 _ rfl; (with_reducible repeat (first | refine blk_drewN ?_ _ | refine blk_drew ?_ | refine blk_alloc ?_ _)); refine blk_put (cs := #[.int .i64 t376, .int .i64 0, .int .i64 0, .slice none 0 0, .slice none 0 0, .slice none 0 0]) ?_ 1 _ rfl; (with_reducible repeat (first | refine blk_drewN ?_ _ | refine blk_drew ?_ | refine blk_alloc ?_ _)); refine blk_put (cs := #[.int .i64 0, .int .i64 0, .int .i64 0, .slice none 0 0, .slice none 0 0, .slice none 0 0]) ?_ 0 _ rfl; (with_reducible repeat (first | refine blk_drewN ?_ _ | refine blk_drew ?_ | refine blk_alloc ?_ _)); exact BK389.out) hb); replace HB := Aside0.mk (below_step oB hb); (try clear hk)))
          go_roundg k1
          case measure => have := HK1.out; omega
          case rel => exact ⟨(t390), (wrap64 (x22_1 + 1)), oS, oS, H', ⟨by have := HK1.out; omega⟩, ⟨by (with_reducible repeat (first | apply Kd.Q_alloc | apply Kd.Q_drewN | apply Kd.Q_drew)); exact HO_20.out⟩, ⟨oF BK370⟩, ⟨oB⟩⟩
        ·rw [if_neg c13] at H
         have c13b0 : (t377 == 2) = false := beq_eq_false_iff_ne.mpr c13
         have c13b1 : (t377 != 2) = true := bne_iff_ne.mpr c13
         simp only [Option.some.injEq, Prod.mk.injEq] at H
         obtain ⟨rfl, rfl⟩ := H
         have p375 : (0 ≤ (x22_1 : Int)) = True := oT
         have q375 : (x22_1 < (t371.length : Int)) = True := oT
         obtain ⟨ad375, e375, hx375_0⟩ := Kd.at_string (Kd.Q_reads' HO_20.out).2.2 x22_1 oa oa
         cases e375
         obtain ⟨⟨_, _⟩, _, _⟩ := z2 BK370
         go_wp2_with (first | ((with_reducible refine gate_callee (f := 67) rfl ?_); refine gl_ 29 Tryd.func67 (impl_InodeAt.calls k1 _ _ l0_0 a0_1 x8_1 t376 t377 t378 t379 t382 t385 true _ (kC HR0_0) HC0_0.out A11.out) ?_; rintro e w35 ⟨v380, v383, v386, rfl, ho0, ho1, ho2, hb⟩; refine ⟨_, rfl, ?_⟩; have HO381 := Aside0.mk (Kd.R_lower ho0 (below_size oB)); have HO384 := Aside0.mk (Kd.R_lower ho1 (below_size oB)); have HO387 := Aside0.mk (Kd.R_lower ho2 (below_size oB)); replace HO_20 := Aside0.mk (Kd.Q_below (by (with_reducible repeat (first | apply Kd.Q_alloc | apply Kd.Q_drewN | apply Kd.Q_drew)); exact HO_20.out) hb); replace BK370 := kb_ BK370 hb; replace HB := Aside0.mk (below_step oB hb); (try clear ho1); (try clear ho2)) | ((with_reducible refine gate_dst (N := 11) rfl ?_); refine bx_ 11 #[.int .i64 0, .int .i64 0, .int .i64 0, .slice none 0 0, .slice none 0 0, .slice none 0 0] 64 ?_; intro gb389 hg w36 hbox hb; have BK389 := Aside0.mk (hbox); have GW389 := gs_ hg; have GE389 := gs_ hg; have NB370_389 := nl_ hg BK370; have NB389_370 := nr_ hg BK370; replace HO_20 := Aside0.mk (Kd.Q_below (by (with_reducible repeat (first | apply Kd.Q_alloc | apply Kd.Q_drewN | apply Kd.Q_drew)); exact HO_20.out) hb); replace HO381 := kr_ HO381 hb; replace HO384 := kr_ HO384 hb; replace HO387 := kr_ HO387 hb; replace BK370 := kb_ BK370 hb; replace HB := Aside0.mk (below_step oB hb); clear hb hbox hg; have hnb37 := NB389_370.out; have hnc37 := NB370_389.out; obtain ⟨⟨_, _, _, _, _, _⟩, _, _, _, _, _, _⟩ := z6 BK389; obtain ⟨Ao39, co39, eo39⟩ := Kd.R_slice HO381.out; subst eo39; obtain ⟨Ao40, co40, eo40⟩ := Kd.R_slice HO384.out; subst eo40; obtain ⟨Ao41, co41, eo41⟩ := Kd.R_slice HO387.out; subst eo41))
         go_ret2
         exact ⟨oE, oB⟩
       ·simp only [Option.some.injEq, Prod.mk.injEq] at H
        obtain ⟨rfl, rfl⟩ := H
        have p375 : (0 ≤ (x22_1 : Int)) = True := oT
        have q375 : (x22_1 < (t371.length : Int)) = True := oT
        obtain ⟨ad375, e375, hx375_0⟩ := Kd.at_string (Kd.Q_reads' HO_20.out).2.2 x22_1 oa oa
        cases e375
        obtain ⟨⟨_, _⟩, _, _⟩ := z2 BK370
        go_wp2_with (first | ((with_reducible refine gate_callee (f := 67) rfl ?_); refine gl_ 29 Tryd.func67 (impl_InodeAt.calls k1 _ _ l0_0 a0_1 x8_1 t376 t377 t378 t379 t382 t385 false _ (kC HR0_0) HC0_0.out A11.out) ?_; rintro e w43 ⟨v380, v383, v386, rfl, ho0, ho1, ho2, hb⟩; refine ⟨_, rfl, ?_⟩; have HO381 := Aside0.mk (Kd.R_lower ho0 (below_size oB)); have HO384 := Aside0.mk (Kd.R_lower ho1 (below_size oB)); have HO387 := Aside0.mk (Kd.R_lower ho2 (below_size oB)); replace HO_20 := Aside0.mk (Kd.Q_below (by (with_reducible repeat (first | apply Kd.Q_alloc | apply Kd.Q_drewN | apply Kd.Q_drew)); exact HO_20.out) hb); replace BK370 := kb_ BK370 hb; replace HB := Aside0.mk (below_step oB hb); (try clear ho1); (try clear ho2)) | ((with_reducible refine gate_dst (N := 11) rfl ?_); refine bx_ 11 #[.int .i64 0, .int .i64 0, .int .i64 0, .slice none 0 0, .slice none 0 0, .slice none 0 0] 64 ?_; intro gb389 hg w44 hbox hb; have BK389 := Aside0.mk (hbox); have GW389 := gs_ hg; have GE389 := gs_ hg; have NB370_389 := nl_ hg BK370; have NB389_370 := nr_ hg BK370; replace HO_20 := Aside0.mk (Kd.Q_below (by (with_reducible repeat (first | apply Kd.Q_alloc | apply Kd.Q_drewN | apply Kd.Q_drew)); exact HO_20.out) hb); replace HO381 := kr_ HO381 hb; replace HO384 := kr_ HO384 hb; replace HO387 := kr_ HO387 hb; replace BK370 := kb_ BK370 hb; replace HB := Aside0.mk (below_step oB hb); clear hb hbox hg; have hnb45 := NB389_370.out; have hnc45 := NB370_389.out; obtain ⟨⟨_, _, _, _, _, _⟩, _, _, _, _, _, _⟩ := z6 BK389; obtain ⟨Ao47, co47, eo47⟩ := Kd.R_slice HO381.out; subst eo47; obtain ⟨Ao48, co48, eo48⟩ := Kd.R_slice HO384.out; subst eo48; obtain ⟨Ao49, co49, eo49⟩ := Kd.R_slice HO387.out; subst eo49))
        go_ret2
        exact ⟨oE, oB⟩
      ·cases H
     ·cases H
    ·simp only [Option.some.injEq, Prod.mk.injEq] at H
     obtain ⟨rfl, rfl⟩ := H
     go_wp2
     go_ret2
     exact ⟨oE, oB⟩
 ·simp only [Option.some.injEq, Prod.mk.injEq] at H
  obtain ⟨rfl, rfl⟩ := H
  go_enter Tryd.func35, Tryd.ntmps35
  go_wp2_with (first | ((with_reducible refine gate_dst (N := 2) rfl ?_); refine bx_ 2 #[.slice A0_0 l0_0.length c0_0, .int .i64 a0_1] 46 ?_; intro gb370 hg w50 hbox hb; have BK370 := Aside0.mk (hbox); have GW370 := gs_ hg; have GE370 := gs_ hg; replace HB := Aside0.mk (below_step oB hb); clear hb hbox hg) | ((with_reducible refine gate_callee (f := 17) rfl ?_); refine gl_ 15 Tryd.func17 (impl_SplitPath.calls k a1 t371 false _ A3.out) ?_; rintro e w51 ⟨v373, rfl, ho0, hb⟩; refine ⟨_, rfl, ?_⟩; have HO374 := Aside0.mk (Kd.Q_lower ho0 (below_size oB)); replace BK370 := kb_ BK370 hb; replace HB := Aside0.mk (below_step oB hb)))
  go_ret2
  exact ⟨oE, oB⟩

/-! ### impl_Stat: function 48 -/
def impl_Stat.f (k : Nat) (l0_0 : List (S64)) (a0_1 : Int) (a1 : ByteArray) : Option (Int × Int × Int × List Int × (List (S91)) × (List (S87)) × Int) := (impl_Walk.f k l0_0 a0_1 a1).bind fun bt393 => (if bt393.2 = 0 then ((impl_InodeAt.f k l0_0 a0_1 bt393.1).bind fun bt395 => (if bt395.2.2.2.2.2.2 = true then (some (bt395.1, bt395.2.1, bt395.2.2.1, bt395.2.2.2.1, bt395.2.2.2.2.1, bt395.2.2.2.2.2.1, 0)) else (some (0, 0, 0, ([] : List Int), ([] : List (S91)), ([] : List (S87)), 2)))) else (some (0, 0, 0, ([] : List Int), ([] : List (S91)), ([] : List (S87)), bt393.2)))
set_option maxHeartbeats 8000000 in
set_option maxRecDepth 100000 in
theorem impl_Stat.calls (k : Nat) (A0_0 : Option Addr) (c0_0 : Nat) (l0_0 : List (S64)) (a0_1 : Int) (a1 : ByteArray) (r1 : Int) (r2 : Int) (r3 : Int) (r4 : List Int) (r5 : List (S91)) (r6 : List (S87)) (r7 : Int) (w : World) (hr0_0 : Kd.C k64 w A0_0 l0_0.length l0_0) (hc0_0 : l0_0.length ≤ c0_0) (h : impl_Stat.f k l0_0 a0_1 a1 = some (r1, r2, r3, r4, r5, r6, r7)) (hG : GOk w := by exact gk_ oB (by first | (with_reducible assumption) | assumption)) :
  Calls Tryd.prog 48 #[.agg #[.slice A0_0 l0_0.length c0_0, .int .i64 a0_1], .string a1] w fun e w' => ∃ v3_ v4_ v5_ : Value, e = .returned (.tuple #[.agg #[.int .i64 r1, .int .i64 r2, .int .i64 r3, v3_, v4_, v5_], .int .i64 r7]) ∧ Kd.R (Kd.int .u8) 5 w' w.heap.size (fun _ => True) v3_ r4 ∧ Kd.R k91 91 w' w.heap.size (fun _ => True) v4_ r5 ∧ Kd.R k87 87 w' w.heap.size (fun _ => True) v5_ r6 ∧ Below w.heap.size w w' := by
 have HG := Aside0.mk hG
 clear hG
 have hu46 := Tryd.underlying46
 have hu64 := Tryd.underlying64
 have HR0_0 := Aside0.mk hr0_0
 have HC0_0 := Aside0.mk hc0_0
 clear hr0_0 hc0_0
 have HB := Aside0.mk (Below.refl w.heap.size w)
 unfold impl_Stat.f at h
 have H := h
 clear h
 replace H := bA H
 obtain ⟨⟨t393, t394⟩, A3, H⟩ := H
 try dsimp only at H
 by_cases c4 : t394 = 0
 ·rw [if_pos c4] at H
  have c4b0 : (t394 == 0) = true := beq_iff_eq.mpr c4
  have c4b1 : (t394 != 0) = false := bne_eq_false_iff_eq.mpr c4
  clear c4
  replace H := bA H
  obtain ⟨⟨t395, t396, t397, t398, t401, t404, t407⟩, A5, H⟩ := H
  try dsimp only at H
  replace H := itB H
  rcases H with ⟨rfl, H⟩ | ⟨rfl, H⟩
  ·simp only [Option.some.injEq, Prod.mk.injEq] at H
   obtain ⟨rfl, rfl, rfl, rfl, rfl, rfl, rfl⟩ := H
   go_enter Tryd.func48, Tryd.ntmps48
   go_wp2_with (first | ((with_reducible refine gate_dst (N := 2) rfl ?_); refine bx_ 2 #[.slice A0_0 l0_0.length c0_0, .int .i64 a0_1] 46 ?_; intro gb391 hg w7 hbox hb; have BK391 := Aside0.mk (hbox); have GW391 := gs_ hg; have GE391 := gs_ hg; replace HB := Aside0.mk (below_step oB hb); clear hb hbox hg) | ((with_reducible refine gate_dst (N := 4) rfl ?_); refine bx_ 4 #[.int .i64 0, .int .i64 0, .int .i64 0, .slice none 0 0, .slice none 0 0, .slice none 0 0] 64 ?_; intro gb392 hg w8 hbox hb; have BK392 := Aside0.mk (hbox); have GW392 := gs_ hg; have GE392 := gs_ hg; have NB391_392 := nl_ hg BK391; have NB392_391 := nr_ hg BK391; replace BK391 := kb_ BK391 hb; replace HB := Aside0.mk (below_step oB hb); clear hb hbox hg; have hnb9 := NB391_392.out; have hnc9 := NB392_391.out; obtain ⟨⟨_, _⟩, _, _⟩ := z2 BK391) | ((with_reducible refine gate_callee (f := 35) rfl ?_); refine gl_ 13 Tryd.func35 (impl_Walk.calls k _ _ l0_0 a0_1 a1 t393 t394 _ (kC HR0_0) HC0_0.out A3.out) ?_; rintro e w11 ⟨rfl, hb⟩; refine ⟨_, rfl, ?_⟩; replace BK391 := kb_ BK391 hb; replace BK392 := kb_ BK392 hb; replace HB := Aside0.mk (below_step oB hb); obtain ⟨⟨_, _⟩, _, _⟩ := z2 BK391) | ((with_reducible refine gate_callee (f := 67) rfl ?_); refine gl_ 23 Tryd.func67 (impl_InodeAt.calls k _ _ l0_0 a0_1 t393 t395 t396 t397 t398 t401 t404 true _ (kC HR0_0) HC0_0.out A5.out) ?_; rintro e w13 ⟨v399, v402, v405, rfl, ho0, ho1, ho2, hb⟩; refine ⟨_, rfl, ?_⟩; have HO400 := Aside0.mk (Kd.R_lower ho0 (below_size oB)); have HO403 := Aside0.mk (Kd.R_lower ho1 (below_size oB)); have HO406 := Aside0.mk (Kd.R_lower ho2 (below_size oB)); replace BK391 := kb_ BK391 hb; replace BK392 := kb_ BK392 hb; replace HB := Aside0.mk (below_step oB hb); (try clear ho1); (try clear ho2)) | ((with_reducible refine gate_dst (N := 8) rfl ?_); refine bx_ 8 #[.int .i64 0, .int .i64 0, .int .i64 0, .slice none 0 0, .slice none 0 0, .slice none 0 0] 64 ?_; intro gb408 hg w14 hbox hb; have BK408 := Aside0.mk (hbox); have GW408 := gs_ hg; have GE408 := gs_ hg; have NB391_408 := nl_ hg BK391; have NB408_391 := nr_ hg BK391; have NB392_408 := nl_ hg BK392; have NB408_392 := nr_ hg BK392; replace HO400 := kr_ HO400 hb; replace HO403 := kr_ HO403 hb; replace HO406 := kr_ HO406 hb; replace BK391 := kb_ BK391 hb; replace BK392 := kb_ BK392 hb; replace HB := Aside0.mk (below_step oB hb); clear hb hbox hg; have hnb15 := NB408_391.out; have hnc15 := NB391_408.out; have hnb16 := NB408_392.out; have hnc16 := NB392_408.out; obtain ⟨⟨_, _, _, _, _, _⟩, _, _, _, _, _, _⟩ := z6 BK408; obtain ⟨Ao18, co18, eo18⟩ := Kd.R_slice HO400.out; subst eo18; obtain ⟨Ao19, co19, eo19⟩ := Kd.R_slice HO403.out; subst eo19; obtain ⟨Ao20, co20, eo20⟩ := Kd.R_slice HO406.out; subst eo20; obtain ⟨⟨_, _, _, _, _, _⟩, _, _, _, _, _, _⟩ := z6 BK392))
   refine bodyPost_ret (results_ct rfl _ _ gb392 64 #[.int .i64 t395, .int .i64 t396, .int .i64 t397, .slice Ao18 t398.length co18, .slice Ao19 t401.length co19, .slice Ao20 t404.length co20] (0, 0) _ rfl (by (with_reducible repeat (first | refine blk_drewN ?_ _ | refine blk_drew ?_ | refine blk_alloc ?_ _)); refine blk_put (cs := #[.int .i64 t395, .int .i64 t396, .int .i64 t397, .slice Ao18 t398.length co18, .slice Ao19 t401.length co19, .slice none 0 0]) ?_ 5 _ rfl; (with_reducible repeat (first | refine blk_drewN ?_ _ | refine blk_drew ?_ | refine blk_alloc ?_ _)); refine blk_put (cs := #[.int .i64 t395, .int .i64 t396, .int .i64 t397, .slice Ao18 t398.length co18, .slice none 0 0, .slice none 0 0]) ?_ 4 _ rfl; (with_reducible repeat (first | refine blk_drewN ?_ _ | refine blk_drew ?_ | refine blk_alloc ?_ _)); refine blk_put (cs := #[.int .i64 t395, .int .i64 t396, .int .i64 t397, .slice none 0 0, .slice none 0 0, .slice none 0 0]) ?_ 3 _ rfl; (with_reducible repeat (first | refine blk_drewN ?_ _ | refine blk_drew ?_ | refine blk_alloc ?_ _)); refine blk_put (cs := #[.int .i64 t395, .int .i64 t396, .int .i64 0, .slice none 0 0, .slice none 0 0, .slice none 0 0]) ?_ 2 _ rfl; (with_reducible repeat (first | refine blk_drewN ?_ _ | refine blk_drew ?_ | refine blk_alloc ?_ _)); refine blk_put (cs := #[.int .i64 t395, .int .i64 0, .int .i64 0, .slice none 0 0, .slice none 0 0, .slice none 0 0]) ?_ 1 _ rfl; (with_reducible repeat (first | refine blk_drewN ?_ _ | refine blk_drew ?_ | refine blk_alloc ?_ _)); refine blk_put (cs := #[.int .i64 0, .int .i64 0, .int .i64 0, .slice none 0 0, .slice none 0 0, .slice none 0 0]) ?_ 0 _ rfl; (with_reducible repeat (first | refine blk_drewN ?_ _ | refine blk_drew ?_ | refine blk_alloc ?_ _)); refine blk_far ?_ NB392_408.out _; (with_reducible repeat (first | refine blk_drewN ?_ _ | refine blk_drew ?_ | refine blk_alloc ?_ _)); refine blk_far ?_ NB392_408.out _; (with_reducible repeat (first | refine blk_drewN ?_ _ | refine blk_drew ?_ | refine blk_alloc ?_ _)); refine blk_far ?_ NB392_408.out _; (with_reducible repeat (first | refine blk_drewN ?_ _ | refine blk_drew ?_ | refine blk_alloc ?_ _)); refine blk_far ?_ NB392_408.out _; (with_reducible repeat (first | refine blk_drewN ?_ _ | refine blk_drew ?_ | refine blk_alloc ?_ _)); refine blk_far ?_ NB392_408.out _; (with_reducible repeat (first | refine blk_drewN ?_ _ | refine blk_drew ?_ | refine blk_alloc ?_ _)); refine blk_far ?_ NB392_408.out _; (with_reducible repeat (first | refine blk_drewN ?_ _ | refine blk_drew ?_ | refine blk_alloc ?_ _)); exact BK392.out) Tryd.underlying64 rfl (by kernel_rfl)) rfl ?_
   exact ⟨_, _, _, oE, by (with_reducible repeat (first | apply Kd.R_alloc | apply Kd.R_drewN | apply Kd.R_drew)); exact Kd.R_mono (Kd.R_far (p := ⟨gb392, 5, none⟩) (Kd.R_far (p := ⟨gb392, 4, none⟩) (Kd.R_far (p := ⟨gb392, 3, none⟩) (Kd.R_far (p := ⟨gb392, 2, none⟩) (Kd.R_far (p := ⟨gb392, 1, none⟩) (Kd.R_far (p := ⟨gb392, 0, none⟩) (Kd.R_far (p := ⟨gb408, 5, none⟩) (Kd.R_far (p := ⟨gb408, 4, none⟩) (Kd.R_far (p := ⟨gb408, 3, none⟩) (Kd.R_far (p := ⟨gb408, 2, none⟩) (Kd.R_far (p := ⟨gb408, 1, none⟩) (Kd.R_far (p := ⟨gb408, 0, none⟩) (Kd.R_types (Kd.R_types HO400.out BK408.out (by decide)) BK392.out (by decide)) (fun _ hk => hk.1.2) (.int .i64 t395)) (fun _ hk => hk.1.2) (.int .i64 t396)) (fun _ hk => hk.1.2) (.int .i64 t397)) (fun _ hk => hk.1.2) (.slice Ao18 t398.length co18)) (fun _ hk => hk.1.2) (.slice Ao19 t401.length co19)) (fun _ hk => hk.1.2) (.slice Ao20 t404.length co20)) (fun _ hk => hk.2) (.int .i64 t395)) (fun _ hk => hk.2) (.int .i64 t396)) (fun _ hk => hk.2) (.int .i64 t397)) (fun _ hk => hk.2) (.slice Ao18 t398.length co18)) (fun _ hk => hk.2) (.slice Ao19 t401.length co19)) (fun _ hk => hk.2) (.slice Ao20 t404.length co20)) (fun _ hk => trivial), by (with_reducible repeat (first | apply Kd.R_alloc | apply Kd.R_drewN | apply Kd.R_drew)); exact Kd.R_mono (Kd.R_far (p := ⟨gb392, 5, none⟩) (Kd.R_far (p := ⟨gb392, 4, none⟩) (Kd.R_far (p := ⟨gb392, 3, none⟩) (Kd.R_far (p := ⟨gb392, 2, none⟩) (Kd.R_far (p := ⟨gb392, 1, none⟩) (Kd.R_far (p := ⟨gb392, 0, none⟩) (Kd.R_far (p := ⟨gb408, 5, none⟩) (Kd.R_far (p := ⟨gb408, 4, none⟩) (Kd.R_far (p := ⟨gb408, 3, none⟩) (Kd.R_far (p := ⟨gb408, 2, none⟩) (Kd.R_far (p := ⟨gb408, 1, none⟩) (Kd.R_far (p := ⟨gb408, 0, none⟩) (Kd.R_types (Kd.R_types HO403.out BK408.out (by decide)) BK392.out (by decide)) (fun _ hk => hk.1.2) (.int .i64 t395)) (fun _ hk => hk.1.2) (.int .i64 t396)) (fun _ hk => hk.1.2) (.int .i64 t397)) (fun _ hk => hk.1.2) (.slice Ao18 t398.length co18)) (fun _ hk => hk.1.2) (.slice Ao19 t401.length co19)) (fun _ hk => hk.1.2) (.slice Ao20 t404.length co20)) (fun _ hk => hk.2) (.int .i64 t395)) (fun _ hk => hk.2) (.int .i64 t396)) (fun _ hk => hk.2) (.int .i64 t397)) (fun _ hk => hk.2) (.slice Ao18 t398.length co18)) (fun _ hk => hk.2) (.slice Ao19 t401.length co19)) (fun _ hk => hk.2) (.slice Ao20 t404.length co20)) (fun _ hk => trivial), by (with_reducible repeat (first | apply Kd.R_alloc | apply Kd.R_drewN | apply Kd.R_drew)); exact Kd.R_mono (Kd.R_far (p := ⟨gb392, 5, none⟩) (Kd.R_far (p := ⟨gb392, 4, none⟩) (Kd.R_far (p := ⟨gb392, 3, none⟩) (Kd.R_far (p := ⟨gb392, 2, none⟩) (Kd.R_far (p := ⟨gb392, 1, none⟩) (Kd.R_far (p := ⟨gb392, 0, none⟩) (Kd.R_far (p := ⟨gb408, 5, none⟩) (Kd.R_far (p := ⟨gb408, 4, none⟩) (Kd.R_far (p := ⟨gb408, 3, none⟩) (Kd.R_far (p := ⟨gb408, 2, none⟩) (Kd.R_far (p := ⟨gb408, 1, none⟩) (Kd.R_far (p := ⟨gb408, 0, none⟩) (Kd.R_types (Kd.R_types HO406.out BK408.out (by decide)) BK392.out (by decide)) (fun _ hk => hk.1.2) (.int .i64 t395)) (fun _ hk => hk.1.2) (.int .i64 t396)) (fun _ hk => hk.1.2) (.int .i64 t397)) (fun _ hk => hk.1.2) (.slice Ao18 t398.length co18)) (fun _ hk => hk.1.2) (.slice Ao19 t401.length co19)) (fun _ hk => hk.1.2) (.slice Ao20 t404.length co20)) (fun _ hk => hk.2) (.int .i64 t395)) (fun _ hk => hk.2) (.int .i64 t396)) (fun _ hk => hk.2) (.int .i64 t397)) (fun _ hk => hk.2) (.slice Ao18 t398.length co18)) (fun _ hk => hk.2) (.slice Ao19 t401.length co19)) (fun _ hk => hk.2) (.slice Ao20 t404.length co20)) (fun _ hk => trivial), oB⟩
  ·simp only [Option.some.injEq, Prod.mk.injEq] at H
   obtain ⟨rfl, rfl, rfl, rfl, rfl, rfl, rfl⟩ := H
   go_enter Tryd.func48, Tryd.ntmps48
   go_wp2_with (first | ((with_reducible refine gate_dst (N := 2) rfl ?_); refine bx_ 2 #[.slice A0_0 l0_0.length c0_0, .int .i64 a0_1] 46 ?_; intro gb391 hg w22 hbox hb; have BK391 := Aside0.mk (hbox); have GW391 := gs_ hg; have GE391 := gs_ hg; replace HB := Aside0.mk (below_step oB hb); clear hb hbox hg) | ((with_reducible refine gate_dst (N := 4) rfl ?_); refine bx_ 4 #[.int .i64 0, .int .i64 0, .int .i64 0, .slice none 0 0, .slice none 0 0, .slice none 0 0] 64 ?_; intro gb392 hg w23 hbox hb; have BK392 := Aside0.mk (hbox); have GW392 := gs_ hg; have GE392 := gs_ hg; have NB391_392 := nl_ hg BK391; have NB392_391 := nr_ hg BK391; replace BK391 := kb_ BK391 hb; replace HB := Aside0.mk (below_step oB hb); clear hb hbox hg; have hnb24 := NB391_392.out; have hnc24 := NB392_391.out; obtain ⟨⟨_, _⟩, _, _⟩ := z2 BK391) | ((with_reducible refine gate_callee (f := 35) rfl ?_); refine gl_ 13 Tryd.func35 (impl_Walk.calls k _ _ l0_0 a0_1 a1 t393 t394 _ (kC HR0_0) HC0_0.out A3.out) ?_; rintro e w26 ⟨rfl, hb⟩; refine ⟨_, rfl, ?_⟩; replace BK391 := kb_ BK391 hb; replace BK392 := kb_ BK392 hb; replace HB := Aside0.mk (below_step oB hb); obtain ⟨⟨_, _⟩, _, _⟩ := z2 BK391) | ((with_reducible refine gate_callee (f := 67) rfl ?_); refine gl_ 23 Tryd.func67 (impl_InodeAt.calls k _ _ l0_0 a0_1 t393 t395 t396 t397 t398 t401 t404 false _ (kC HR0_0) HC0_0.out A5.out) ?_; rintro e w28 ⟨v399, v402, v405, rfl, ho0, ho1, ho2, hb⟩; refine ⟨_, rfl, ?_⟩; have HO400 := Aside0.mk (Kd.R_lower ho0 (below_size oB)); have HO403 := Aside0.mk (Kd.R_lower ho1 (below_size oB)); have HO406 := Aside0.mk (Kd.R_lower ho2 (below_size oB)); replace BK391 := kb_ BK391 hb; replace BK392 := kb_ BK392 hb; replace HB := Aside0.mk (below_step oB hb); (try clear ho1); (try clear ho2)) | ((with_reducible refine gate_dst (N := 8) rfl ?_); refine bx_ 8 #[.int .i64 0, .int .i64 0, .int .i64 0, .slice none 0 0, .slice none 0 0, .slice none 0 0] 64 ?_; intro gb408 hg w29 hbox hb; have BK408 := Aside0.mk (hbox); have GW408 := gs_ hg; have GE408 := gs_ hg; have NB391_408 := nl_ hg BK391; have NB408_391 := nr_ hg BK391; have NB392_408 := nl_ hg BK392; have NB408_392 := nr_ hg BK392; replace HO400 := kr_ HO400 hb; replace HO403 := kr_ HO403 hb; replace HO406 := kr_ HO406 hb; replace BK391 := kb_ BK391 hb; replace BK392 := kb_ BK392 hb; replace HB := Aside0.mk (below_step oB hb); clear hb hbox hg; have hnb30 := NB408_391.out; have hnc30 := NB391_408.out; have hnb31 := NB408_392.out; have hnc31 := NB392_408.out; obtain ⟨⟨_, _, _, _, _, _⟩, _, _, _, _, _, _⟩ := z6 BK408; obtain ⟨Ao33, co33, eo33⟩ := Kd.R_slice HO400.out; subst eo33; obtain ⟨Ao34, co34, eo34⟩ := Kd.R_slice HO403.out; subst eo34; obtain ⟨Ao35, co35, eo35⟩ := Kd.R_slice HO406.out; subst eo35; obtain ⟨⟨_, _, _, _, _, _⟩, _, _, _, _, _, _⟩ := z6 BK392))
   refine bodyPost_ret (results_ct rfl _ _ gb392 64 #[.int .i64 0, .int .i64 0, .int .i64 0, .slice none 0 0, .slice none 0 0, .slice none 0 0] (0, 0) _ rfl (by (with_reducible repeat (first | refine blk_drewN ?_ _ | refine blk_drew ?_ | refine blk_alloc ?_ _)); refine blk_put (cs := #[.int .i64 0, .int .i64 0, .int .i64 0, .slice none 0 0, .slice none 0 0, .slice none 0 0]) ?_ 5 _ rfl; (with_reducible repeat (first | refine blk_drewN ?_ _ | refine blk_drew ?_ | refine blk_alloc ?_ _)); refine blk_put (cs := #[.int .i64 0, .int .i64 0, .int .i64 0, .slice none 0 0, .slice none 0 0, .slice none 0 0]) ?_ 4 _ rfl; (with_reducible repeat (first | refine blk_drewN ?_ _ | refine blk_drew ?_ | refine blk_alloc ?_ _)); refine blk_put (cs := #[.int .i64 0, .int .i64 0, .int .i64 0, .slice none 0 0, .slice none 0 0, .slice none 0 0]) ?_ 3 _ rfl; (with_reducible repeat (first | refine blk_drewN ?_ _ | refine blk_drew ?_ | refine blk_alloc ?_ _)); refine blk_put (cs := #[.int .i64 0, .int .i64 0, .int .i64 0, .slice none 0 0, .slice none 0 0, .slice none 0 0]) ?_ 2 _ rfl; (with_reducible repeat (first | refine blk_drewN ?_ _ | refine blk_drew ?_ | refine blk_alloc ?_ _)); refine blk_put (cs := #[.int .i64 0, .int .i64 0, .int .i64 0, .slice none 0 0, .slice none 0 0, .slice none 0 0]) ?_ 1 _ rfl; (with_reducible repeat (first | refine blk_drewN ?_ _ | refine blk_drew ?_ | refine blk_alloc ?_ _)); refine blk_put (cs := #[.int .i64 0, .int .i64 0, .int .i64 0, .slice none 0 0, .slice none 0 0, .slice none 0 0]) ?_ 0 _ rfl; (with_reducible repeat (first | refine blk_drewN ?_ _ | refine blk_drew ?_ | refine blk_alloc ?_ _)); refine blk_far ?_ NB392_408.out _; (with_reducible repeat (first | refine blk_drewN ?_ _ | refine blk_drew ?_ | refine blk_alloc ?_ _)); refine blk_far ?_ NB392_408.out _; (with_reducible repeat (first | refine blk_drewN ?_ _ | refine blk_drew ?_ | refine blk_alloc ?_ _)); refine blk_far ?_ NB392_408.out _; (with_reducible repeat (first | refine blk_drewN ?_ _ | refine blk_drew ?_ | refine blk_alloc ?_ _)); refine blk_far ?_ NB392_408.out _; (with_reducible repeat (first | refine blk_drewN ?_ _ | refine blk_drew ?_ | refine blk_alloc ?_ _)); refine blk_far ?_ NB392_408.out _; (with_reducible repeat (first | refine blk_drewN ?_ _ | refine blk_drew ?_ | refine blk_alloc ?_ _)); refine blk_far ?_ NB392_408.out _; (with_reducible repeat (first | refine blk_drewN ?_ _ | refine blk_drew ?_ | refine blk_alloc ?_ _)); exact BK392.out) Tryd.underlying64 rfl (by kernel_rfl)) rfl ?_
   exact ⟨_, _, _, oE, by first | exact Kd.R_nil _ _ _ _ _ | exact Kd.N_nil _ _ _ _ _ | exact Kd.V_nil _ _ _ _ _ | exact Kd.Q_nil _ _ _ _ _ | exact Kd.S_nil _ _ _ _ _, by first | exact Kd.R_nil _ _ _ _ _ | exact Kd.N_nil _ _ _ _ _ | exact Kd.V_nil _ _ _ _ _ | exact Kd.Q_nil _ _ _ _ _ | exact Kd.S_nil _ _ _ _ _, by first | exact Kd.R_nil _ _ _ _ _ | exact Kd.N_nil _ _ _ _ _ | exact Kd.V_nil _ _ _ _ _ | exact Kd.Q_nil _ _ _ _ _ | exact Kd.S_nil _ _ _ _ _, oB⟩
 ·rw [if_neg c4] at H
  have c4b0 : (t394 == 0) = false := beq_eq_false_iff_ne.mpr c4
  have c4b1 : (t394 != 0) = true := bne_iff_ne.mpr c4
  simp only [Option.some.injEq, Prod.mk.injEq] at H
  obtain ⟨rfl, rfl, rfl, rfl, rfl, rfl, rfl⟩ := H
  go_enter Tryd.func48, Tryd.ntmps48
  go_wp2_with (first | ((with_reducible refine gate_dst (N := 2) rfl ?_); refine bx_ 2 #[.slice A0_0 l0_0.length c0_0, .int .i64 a0_1] 46 ?_; intro gb391 hg w37 hbox hb; have BK391 := Aside0.mk (hbox); have GW391 := gs_ hg; have GE391 := gs_ hg; replace HB := Aside0.mk (below_step oB hb); clear hb hbox hg) | ((with_reducible refine gate_dst (N := 4) rfl ?_); refine bx_ 4 #[.int .i64 0, .int .i64 0, .int .i64 0, .slice none 0 0, .slice none 0 0, .slice none 0 0] 64 ?_; intro gb392 hg w38 hbox hb; have BK392 := Aside0.mk (hbox); have GW392 := gs_ hg; have GE392 := gs_ hg; have NB391_392 := nl_ hg BK391; have NB392_391 := nr_ hg BK391; replace BK391 := kb_ BK391 hb; replace HB := Aside0.mk (below_step oB hb); clear hb hbox hg; have hnb39 := NB391_392.out; have hnc39 := NB392_391.out; obtain ⟨⟨_, _⟩, _, _⟩ := z2 BK391) | ((with_reducible refine gate_callee (f := 35) rfl ?_); refine gl_ 13 Tryd.func35 (impl_Walk.calls k _ _ l0_0 a0_1 a1 t393 t394 _ (kC HR0_0) HC0_0.out A3.out) ?_; rintro e w41 ⟨rfl, hb⟩; refine ⟨_, rfl, ?_⟩; replace BK391 := kb_ BK391 hb; replace BK392 := kb_ BK392 hb; replace HB := Aside0.mk (below_step oB hb); obtain ⟨⟨_, _, _, _, _, _⟩, _, _, _, _, _, _⟩ := z6 BK392))
  refine bodyPost_ret (results_ct rfl _ _ gb392 64 #[.int .i64 0, .int .i64 0, .int .i64 0, .slice none 0 0, .slice none 0 0, .slice none 0 0] (0, 0) _ rfl (by (with_reducible repeat (first | refine blk_drewN ?_ _ | refine blk_drew ?_ | refine blk_alloc ?_ _)); refine blk_put (cs := #[.int .i64 0, .int .i64 0, .int .i64 0, .slice none 0 0, .slice none 0 0, .slice none 0 0]) ?_ 5 _ rfl; (with_reducible repeat (first | refine blk_drewN ?_ _ | refine blk_drew ?_ | refine blk_alloc ?_ _)); refine blk_put (cs := #[.int .i64 0, .int .i64 0, .int .i64 0, .slice none 0 0, .slice none 0 0, .slice none 0 0]) ?_ 4 _ rfl; (with_reducible repeat (first | refine blk_drewN ?_ _ | refine blk_drew ?_ | refine blk_alloc ?_ _)); refine blk_put (cs := #[.int .i64 0, .int .i64 0, .int .i64 0, .slice none 0 0, .slice none 0 0, .slice none 0 0]) ?_ 3 _ rfl; (with_reducible repeat (first | refine blk_drewN ?_ _ | refine blk_drew ?_ | refine blk_alloc ?_ _)); refine blk_put (cs := #[.int .i64 0, .int .i64 0, .int .i64 0, .slice none 0 0, .slice none 0 0, .slice none 0 0]) ?_ 2 _ rfl; (with_reducible repeat (first | refine blk_drewN ?_ _ | refine blk_drew ?_ | refine blk_alloc ?_ _)); refine blk_put (cs := #[.int .i64 0, .int .i64 0, .int .i64 0, .slice none 0 0, .slice none 0 0, .slice none 0 0]) ?_ 1 _ rfl; (with_reducible repeat (first | refine blk_drewN ?_ _ | refine blk_drew ?_ | refine blk_alloc ?_ _)); refine blk_put (cs := #[.int .i64 0, .int .i64 0, .int .i64 0, .slice none 0 0, .slice none 0 0, .slice none 0 0]) ?_ 0 _ rfl; (with_reducible repeat (first | refine blk_drewN ?_ _ | refine blk_drew ?_ | refine blk_alloc ?_ _)); exact BK392.out) Tryd.underlying64 rfl (by kernel_rfl)) rfl ?_
  exact ⟨_, _, _, oE, by first | exact Kd.R_nil _ _ _ _ _ | exact Kd.N_nil _ _ _ _ _ | exact Kd.V_nil _ _ _ _ _ | exact Kd.Q_nil _ _ _ _ _ | exact Kd.S_nil _ _ _ _ _, by first | exact Kd.R_nil _ _ _ _ _ | exact Kd.N_nil _ _ _ _ _ | exact Kd.V_nil _ _ _ _ _ | exact Kd.Q_nil _ _ _ _ _ | exact Kd.S_nil _ _ _ _ _, by first | exact Kd.R_nil _ _ _ _ _ | exact Kd.N_nil _ _ _ _ _ | exact Kd.V_nil _ _ _ _ _ | exact Kd.Q_nil _ _ _ _ _ | exact Kd.S_nil _ _ _ _ _, oB⟩

/-! ### impl_GetAttr: function 38 -/
def impl_GetAttr.l0 : Nat → ByteArray → List (S87) → Int → Int → Option (ByteArray × Int)
 | 0, _, _, _, _ => none
 | k + 1, x2, x22, x23, x24 => if x24 < x23 then (if 0 ≤ x24 then (if x24 < (x22.length : Int) then (if ((rd_T87 x22 x24).f0).toList = x2.toList then (some ((rd_T87 x22 x24).f1, 0)) else (impl_GetAttr.l0 k x2 x22 x23 (wrap64 (x24 + 1)))) else (none)) else (none)) else (some ((⟨#[]⟩ : ByteArray), 2))
def impl_GetAttr.f (k : Nat) (l0_0 : List (S64)) (a0_1 : Int) (a1 : ByteArray) (a2 : ByteArray) : Option (ByteArray × Int) := (impl_Stat.f k l0_0 a0_1 a1).bind fun bt410 => (if bt410.2.2.2.2.2.2 = 0 then (impl_GetAttr.l0 k a2 bt410.2.2.2.2.2.1 (bt410.2.2.2.2.2.1.length : Int) 0) else (some ((⟨#[]⟩ : ByteArray), bt410.2.2.2.2.2.2)))
set_option maxHeartbeats 8000000 in
set_option maxRecDepth 100000 in
theorem impl_GetAttr.calls (k : Nat) (A0_0 : Option Addr) (c0_0 : Nat) (l0_0 : List (S64)) (a0_1 : Int) (a1 : ByteArray) (a2 : ByteArray) (r1 : ByteArray) (r2 : Int) (w : World) (hr0_0 : Kd.C k64 w A0_0 l0_0.length l0_0) (hc0_0 : l0_0.length ≤ c0_0) (h : impl_GetAttr.f k l0_0 a0_1 a1 a2 = some (r1, r2)) (hG : GOk w := by exact gk_ oB (by first | (with_reducible assumption) | assumption)) :
  Calls Tryd.prog 38 #[.agg #[.slice A0_0 l0_0.length c0_0, .int .i64 a0_1], .string a1, .string a2] w fun e w' => e = .returned (.tuple #[.string r1, .int .i64 r2]) ∧ Below w.heap.size w w' := by
 have HG := Aside0.mk hG
 clear hG
 have hu46 := Tryd.underlying46
 have hu64 := Tryd.underlying64
 have hu87 := Tryd.underlying87
 have HR0_0 := Aside0.mk hr0_0
 have HC0_0 := Aside0.mk hc0_0
 clear hr0_0 hc0_0
 have HB := Aside0.mk (Below.refl w.heap.size w)
 unfold impl_GetAttr.f at h
 have H := h
 clear h
 replace H := bA H
 obtain ⟨⟨t410, t411, t412, t413, t416, t419, t422⟩, A4, H⟩ := H
 try dsimp only at H
 by_cases c5 : t422 = 0
 ·rw [if_pos c5] at H
  have c5b0 : (t422 == 0) = true := beq_iff_eq.mpr c5
  have c5b1 : (t422 != 0) = false := bne_eq_false_iff_eq.mpr c5
  clear c5
  have H' := Aside0.mk H
  clear H
  go_enter Tryd.func38, Tryd.ntmps38
  go_wp2_with (first | ((with_reducible refine gate_dst (N := 3) rfl ?_); refine bx_ 3 #[.slice A0_0 l0_0.length c0_0, .int .i64 a0_1] 46 ?_; intro gb409 hg w6 hbox hb; have BK409 := Aside0.mk (hbox); have GW409 := gs_ hg; have GE409 := gs_ hg; replace HB := Aside0.mk (below_step oB hb); clear hb hbox hg; obtain ⟨⟨_, _⟩, _, _⟩ := z2 BK409) | ((with_reducible refine gate_callee (f := 48) rfl ?_); refine gl_ 15 Tryd.func48 (impl_Stat.calls k _ _ l0_0 a0_1 a1 t410 t411 t412 t413 t416 t419 t422 _ (kC HR0_0) HC0_0.out A4.out) ?_; rintro e w8 ⟨v414, v417, v420, rfl, ho0, ho1, ho2, hb⟩; refine ⟨_, rfl, ?_⟩; have HO415 := Aside0.mk (Kd.R_lower ho0 (below_size oB)); have HO418 := Aside0.mk (Kd.R_lower ho1 (below_size oB)); have HO421 := Aside0.mk (Kd.R_lower ho2 (below_size oB)); replace BK409 := kb_ BK409 hb; replace HB := Aside0.mk (below_step oB hb); (try clear ho1); (try clear ho2)) | ((with_reducible refine gate_dst (N := 8) rfl ?_); refine bx_ 8 #[.int .i64 0, .int .i64 0, .int .i64 0, .slice none 0 0, .slice none 0 0, .slice none 0 0] 64 ?_; intro gb423 hg w9 hbox hb; have BK423 := Aside0.mk (hbox); have GW423 := gs_ hg; have GE423 := gs_ hg; have NB409_423 := nl_ hg BK409; have NB423_409 := nr_ hg BK409; replace HO415 := kr_ HO415 hb; replace HO418 := kr_ HO418 hb; replace HO421 := kr_ HO421 hb; replace BK409 := kb_ BK409 hb; replace HB := Aside0.mk (below_step oB hb); clear hb hbox hg; have hnb10 := NB423_409.out; have hnc10 := NB409_423.out; obtain ⟨⟨_, _, _, _, _, _⟩, _, _, _, _, _, _⟩ := z6 BK423; obtain ⟨Ao12, co12, eo12⟩ := Kd.R_slice HO415.out; subst eo12; obtain ⟨Ao13, co13, eo13⟩ := Kd.R_slice HO418.out; subst eo13; obtain ⟨Ao14, co14, eo14⟩ := Kd.R_slice HO421.out; subst eo14))
  go_loopg [24] k (fun kq v24 w' => ∃ (x24_1 : Int), v24 = .int .i64 x24_1 ∧ Aside0 (impl_GetAttr.l0 kq a2 t419 (t419.length : Int) x24_1 = some (r1, r2)) ∧ Aside0 (kq ≤ k) ∧ Aside0 (Kd.R k87 87 w' w.heap.size (fun _ => True) (.slice Ao14 t419.length co14) t419) ∧ Aside0 (Kd.R (Kd.int .u8) 5 w' w.heap.size (fun _ => True) (.slice Ao12 t413.length co12) t413) ∧ Aside0 (Kd.R k91 91 w' w.heap.size (fun _ => True) (.slice Ao13 t416.length co13) t416) ∧ Aside0 (Kd.R k87 87 w' w.heap.size (fun _ => True) (.slice Ao14 t419.length co14) t419) ∧ Aside0 (w'.heap[gb409]? = some (.cells #[(.slice A0_0 l0_0.length c0_0), .int .i64 a0_1] 46 (0, 0))) ∧ Aside0 (w'.heap[gb423]? = some (.cells #[.int .i64 t410, .int .i64 t411, .int .i64 t412, (.slice Ao12 t413.length co12), (.slice Ao13 t416.length co13), (.slice Ao14 t419.length co14)] 64 (0, 0))) ∧ Aside0 (Below w.heap.size w w'))
  case atStart => exact ⟨(0), oS, H', ⟨Nat.le_refl _⟩, ⟨by (with_reducible repeat (first | apply Kd.R_alloc | apply Kd.R_drewN | apply Kd.R_drew)); exact Kd.R_mono (Kd.R_far (p := ⟨gb423, 5, none⟩) (Kd.R_far (p := ⟨gb423, 4, none⟩) (Kd.R_far (p := ⟨gb423, 3, none⟩) (Kd.R_far (p := ⟨gb423, 2, none⟩) (Kd.R_far (p := ⟨gb423, 1, none⟩) (Kd.R_far (p := ⟨gb423, 0, none⟩) (Kd.R_types HO421.out BK423.out (by decide)) (fun _ hk => hk.2) (.int .i64 t410)) (fun _ hk => hk.2) (.int .i64 t411)) (fun _ hk => hk.2) (.int .i64 t412)) (fun _ hk => hk.2) (.slice Ao12 t413.length co12)) (fun _ hk => hk.2) (.slice Ao13 t416.length co13)) (fun _ hk => hk.2) (.slice Ao14 t419.length co14)) (fun _ hk => trivial)⟩, ⟨by (with_reducible repeat (first | apply Kd.R_alloc | apply Kd.R_drewN | apply Kd.R_drew)); exact Kd.R_mono (Kd.R_far (p := ⟨gb423, 5, none⟩) (Kd.R_far (p := ⟨gb423, 4, none⟩) (Kd.R_far (p := ⟨gb423, 3, none⟩) (Kd.R_far (p := ⟨gb423, 2, none⟩) (Kd.R_far (p := ⟨gb423, 1, none⟩) (Kd.R_far (p := ⟨gb423, 0, none⟩) (Kd.R_types HO415.out BK423.out (by decide)) (fun _ hk => hk.2) (.int .i64 t410)) (fun _ hk => hk.2) (.int .i64 t411)) (fun _ hk => hk.2) (.int .i64 t412)) (fun _ hk => hk.2) (.slice Ao12 t413.length co12)) (fun _ hk => hk.2) (.slice Ao13 t416.length co13)) (fun _ hk => hk.2) (.slice Ao14 t419.length co14)) (fun _ hk => trivial)⟩, ⟨by (with_reducible repeat (first | apply Kd.R_alloc | apply Kd.R_drewN | apply Kd.R_drew)); exact Kd.R_mono (Kd.R_far (p := ⟨gb423, 5, none⟩) (Kd.R_far (p := ⟨gb423, 4, none⟩) (Kd.R_far (p := ⟨gb423, 3, none⟩) (Kd.R_far (p := ⟨gb423, 2, none⟩) (Kd.R_far (p := ⟨gb423, 1, none⟩) (Kd.R_far (p := ⟨gb423, 0, none⟩) (Kd.R_types HO418.out BK423.out (by decide)) (fun _ hk => hk.2) (.int .i64 t410)) (fun _ hk => hk.2) (.int .i64 t411)) (fun _ hk => hk.2) (.int .i64 t412)) (fun _ hk => hk.2) (.slice Ao12 t413.length co12)) (fun _ hk => hk.2) (.slice Ao13 t416.length co13)) (fun _ hk => hk.2) (.slice Ao14 t419.length co14)) (fun _ hk => trivial)⟩, ⟨by (with_reducible repeat (first | apply Kd.R_alloc | apply Kd.R_drewN | apply Kd.R_drew)); exact Kd.R_mono (Kd.R_far (p := ⟨gb423, 5, none⟩) (Kd.R_far (p := ⟨gb423, 4, none⟩) (Kd.R_far (p := ⟨gb423, 3, none⟩) (Kd.R_far (p := ⟨gb423, 2, none⟩) (Kd.R_far (p := ⟨gb423, 1, none⟩) (Kd.R_far (p := ⟨gb423, 0, none⟩) (Kd.R_types HO421.out BK423.out (by decide)) (fun _ hk => hk.2) (.int .i64 t410)) (fun _ hk => hk.2) (.int .i64 t411)) (fun _ hk => hk.2) (.int .i64 t412)) (fun _ hk => hk.2) (.slice Ao12 t413.length co12)) (fun _ hk => hk.2) (.slice Ao13 t416.length co13)) (fun _ hk => hk.2) (.slice Ao14 t419.length co14)) (fun _ hk => trivial)⟩, ⟨by (with_reducible repeat (first | refine blk_drewN ?_ _ | refine blk_drew ?_ | refine blk_alloc ?_ _)); refine blk_far ?_ NB409_423.out _; (with_reducible repeat (first | refine blk_drewN ?_ _ | refine blk_drew ?_ | refine blk_alloc ?_ _)); refine blk_far ?_ NB409_423.out _; (with_reducible repeat (first | refine blk_drewN ?_ _ | refine blk_drew ?_ | refine blk_alloc ?_ _)); refine blk_far ?_ NB409_423.out _; (with_reducible repeat (first | refine blk_drewN ?_ _ | refine blk_drew ?_ | refine blk_alloc ?_ _)); refine blk_far ?_ NB409_423.out _; (with_reducible repeat (first | refine blk_drewN ?_ _ | refine blk_drew ?_ | refine blk_alloc ?_ _)); refine blk_far ?_ NB409_423.out _; (with_reducible repeat (first | refine blk_drewN ?_ _ | refine blk_drew ?_ | refine blk_alloc ?_ _)); refine blk_far ?_ NB409_423.out _; (with_reducible repeat (first | refine blk_drewN ?_ _ | refine blk_drew ?_ | refine blk_alloc ?_ _)); exact BK409.out⟩, ⟨by (with_reducible repeat (first | refine blk_drewN ?_ _ | refine blk_drew ?_ | refine blk_alloc ?_ _)); refine blk_put (cs := #[.int .i64 t410, .int .i64 t411, .int .i64 t412, .slice Ao12 t413.length co12, .slice Ao13 t416.length co13, .slice none 0 0]) ?_ 5 _ rfl; (with_reducible repeat (first | refine blk_drewN ?_ _ | refine blk_drew ?_ | refine blk_alloc ?_ _)); refine blk_put (cs := #[.int .i64 t410, .int .i64 t411, .int .i64 t412, .slice Ao12 t413.length co12, .slice none 0 0, .slice none 0 0]) ?_ 4 _ rfl; (with_reducible repeat (first | refine blk_drewN ?_ _ | refine blk_drew ?_ | refine blk_alloc ?_ _)); refine blk_put (cs := #[.int .i64 t410, .int .i64 t411, .int .i64 t412, .slice none 0 0, .slice none 0 0, .slice none 0 0]) ?_ 3 _ rfl; (with_reducible repeat (first | refine blk_drewN ?_ _ | refine blk_drew ?_ | refine blk_alloc ?_ _)); refine blk_put (cs := #[.int .i64 t410, .int .i64 t411, .int .i64 0, .slice none 0 0, .slice none 0 0, .slice none 0 0]) ?_ 2 _ rfl; (with_reducible repeat (first | refine blk_drewN ?_ _ | refine blk_drew ?_ | refine blk_alloc ?_ _)); refine blk_put (cs := #[.int .i64 t410, .int .i64 0, .int .i64 0, .slice none 0 0, .slice none 0 0, .slice none 0 0]) ?_ 1 _ rfl; (with_reducible repeat (first | refine blk_drewN ?_ _ | refine blk_drew ?_ | refine blk_alloc ?_ _)); refine blk_put (cs := #[.int .i64 0, .int .i64 0, .int .i64 0, .slice none 0 0, .slice none 0 0, .slice none 0 0]) ?_ 0 _ rfl; (with_reducible repeat (first | refine blk_drewN ?_ _ | refine blk_drew ?_ | refine blk_alloc ?_ _)); exact BK423.out⟩, ⟨oB⟩⟩
  case round =>
   clear H'
   try clear c5
   obtain ⟨x24_1, rfl, HA, HK1, HO_22, HO_424003, HO_424004, HO_424005, BK409, BK423, HB⟩ := hrel
   cases gk with
   | zero => exact absurd HA.out (by simp [impl_GetAttr.l0])
   | succ k1 =>
    have H := HA.out
    clear HA
    simp only [impl_GetAttr.l0] at H
    replace H := itD H
    rcases H with ⟨c15b0, H⟩ | ⟨c15b0, H⟩
    ·replace H := itD H
     rcases H with ⟨c16b0, H⟩ | ⟨c16b0, H⟩
     ·replace H := itD H
      rcases H with ⟨c17b0, H⟩ | ⟨c17b0, H⟩
      ·by_cases c18 : ((rd_T87 t419 x24_1).f0).toList = a2.toList
       ·rw [if_pos c18] at H
        have c18b0 : (((rd_T87 t419 x24_1).f0).toList == a2.toList) = true := beq_iff_eq.mpr c18
        have c18b1 : (((rd_T87 t419 x24_1).f0).toList != a2.toList) = false := bne_eq_false_iff_eq.mpr c18
        clear c18
        simp only [Option.some.injEq, Prod.mk.injEq] at H
        obtain ⟨rfl, rfl⟩ := H
        have p424 : (0 ≤ (x24_1 : Int)) = True := oT
        have q424 : (x24_1 < (t419.length : Int)) = True := oT
        obtain ⟨ad424, e424, hx424_0, hx424_1⟩ := at_T87 (Kd.R_reads' HO_22.out).2.2 x24_1 oa oa
        cases e424
        go_wp2_with (first | ((with_reducible refine gate_dst (N := 11) rfl ?_); refine bx_ 11 #[.string (⟨#[]⟩ : ByteArray), .string (⟨#[]⟩ : ByteArray)] 87 ?_; intro gb425 hg w19 hbox hb; have BK425 := Aside0.mk (hbox); have GW425 := gs_ hg; have GE425 := gs_ hg; have NB409_425 := nl_ hg BK409; have NB425_409 := nr_ hg BK409; have NB423_425 := nl_ hg BK423; have NB425_423 := nr_ hg BK423; replace HO_22 := Aside0.mk (Kd.R_below (Kd.R_elderB (oR HO_22) gb425 (Nat.le_of_eq hg.symm)) hb); replace HO_424003 := kr_ HO_424003 hb; replace HO_424004 := kr_ HO_424004 hb; replace HO_424005 := Aside0.mk (Kd.R_below (Kd.R_elderB (oR HO_424005) gb425 (Nat.le_of_eq hg.symm)) hb); replace BK409 := kb_ BK409 hb; replace BK423 := kb_ BK423 hb; replace HB := Aside0.mk (below_step oB hb); clear hb hbox hg; have hnb20 := NB425_409.out; have hnc20 := NB409_425.out; have hnb21 := NB425_423.out; have hnc21 := NB423_425.out; obtain ⟨⟨_, _⟩, _, _⟩ := z2 BK425))
        go_ret2
        exact ⟨oE, oB⟩
       ·rw [if_neg c18] at H
        have c18b0 : (((rd_T87 t419 x24_1).f0).toList == a2.toList) = false := beq_eq_false_iff_ne.mpr c18
        have c18b1 : (((rd_T87 t419 x24_1).f0).toList != a2.toList) = true := bne_iff_ne.mpr c18
        have H' := Aside0.mk H
        clear H
        have p424 : (0 ≤ (x24_1 : Int)) = True := oT
        have q424 : (x24_1 < (t419.length : Int)) = True := oT
        obtain ⟨ad424, e424, hx424_0, hx424_1⟩ := at_T87 (Kd.R_reads' HO_22.out).2.2 x24_1 oa oa
        cases e424
        go_wp2_with (first | ((with_reducible refine gate_dst (N := 11) rfl ?_); refine bx_ 11 #[.string (⟨#[]⟩ : ByteArray), .string (⟨#[]⟩ : ByteArray)] 87 ?_; intro gb425 hg w23 hbox hb; have BK425 := Aside0.mk (hbox); have GW425 := gs_ hg; have GE425 := gs_ hg; have NB409_425 := nl_ hg BK409; have NB425_409 := nr_ hg BK409; have NB423_425 := nl_ hg BK423; have NB425_423 := nr_ hg BK423; replace HO_22 := Aside0.mk (Kd.R_below (Kd.R_elderB (oR HO_22) gb425 (Nat.le_of_eq hg.symm)) hb); replace HO_424003 := kr_ HO_424003 hb; replace HO_424004 := kr_ HO_424004 hb; replace HO_424005 := Aside0.mk (Kd.R_below (Kd.R_elderB (oR HO_424005) gb425 (Nat.le_of_eq hg.symm)) hb); replace BK409 := kb_ BK409 hb; replace BK423 := kb_ BK423 hb; replace HB := Aside0.mk (below_step oB hb); clear hb hbox hg; have hnb24 := NB425_409.out; have hnc24 := NB409_425.out; have hnb25 := NB425_423.out; have hnc25 := NB423_425.out; obtain ⟨⟨_, _⟩, _, _⟩ := z2 BK425))
        go_roundg k1
        case measure => have := HK1.out; omega
        case rel => exact ⟨(wrap64 (x24_1 + 1)), oS, H', ⟨by have := HK1.out; omega⟩, ⟨by (with_reducible repeat (first | apply Kd.R_alloc | apply Kd.R_drewN | apply Kd.R_drew)); exact Kd.R_mono (Kd.R_far (p := ⟨gb425, 1, none⟩) (Kd.R_far (p := ⟨gb425, 0, none⟩) (Kd.R_mono HO_22.out (fun k_ hk => (⟨hk, hk.2⟩ : _ ∧ k_ ≠ gb425))) (fun _ hk => hk.2) (.string ((rd_T87 t419 x24_1).f0))) (fun _ hk => hk.2) (.string ((rd_T87 t419 x24_1).f1))) (fun _ hk => trivial)⟩, ⟨by (with_reducible repeat (first | apply Kd.R_alloc | apply Kd.R_drewN | apply Kd.R_drew)); exact Kd.R_mono (Kd.R_far (p := ⟨gb425, 1, none⟩) (Kd.R_far (p := ⟨gb425, 0, none⟩) (Kd.R_types HO_424003.out BK425.out (by decide)) (fun _ hk => hk.2) (.string ((rd_T87 t419 x24_1).f0))) (fun _ hk => hk.2) (.string ((rd_T87 t419 x24_1).f1))) (fun _ hk => trivial)⟩, ⟨by (with_reducible repeat (first | apply Kd.R_alloc | apply Kd.R_drewN | apply Kd.R_drew)); exact Kd.R_mono (Kd.R_far (p := ⟨gb425, 1, none⟩) (Kd.R_far (p := ⟨gb425, 0, none⟩) (Kd.R_types HO_424004.out BK425.out (by decide)) (fun _ hk => hk.2) (.string ((rd_T87 t419 x24_1).f0))) (fun _ hk => hk.2) (.string ((rd_T87 t419 x24_1).f1))) (fun _ hk => trivial)⟩, ⟨by (with_reducible repeat (first | apply Kd.R_alloc | apply Kd.R_drewN | apply Kd.R_drew)); exact Kd.R_mono (Kd.R_far (p := ⟨gb425, 1, none⟩) (Kd.R_far (p := ⟨gb425, 0, none⟩) (Kd.R_mono HO_424005.out (fun k_ hk => (⟨hk, hk.2⟩ : _ ∧ k_ ≠ gb425))) (fun _ hk => hk.2) (.string ((rd_T87 t419 x24_1).f0))) (fun _ hk => hk.2) (.string ((rd_T87 t419 x24_1).f1))) (fun _ hk => trivial)⟩, ⟨by (with_reducible repeat (first | refine blk_drewN ?_ _ | refine blk_drew ?_ | refine blk_alloc ?_ _)); refine blk_far ?_ NB409_425.out _; (with_reducible repeat (first | refine blk_drewN ?_ _ | refine blk_drew ?_ | refine blk_alloc ?_ _)); refine blk_far ?_ NB409_425.out _; (with_reducible repeat (first | refine blk_drewN ?_ _ | refine blk_drew ?_ | refine blk_alloc ?_ _)); exact BK409.out⟩, ⟨by (with_reducible repeat (first | refine blk_drewN ?_ _ | refine blk_drew ?_ | refine blk_alloc ?_ _)); refine blk_far ?_ NB423_425.out _; (with_reducible repeat (first | refine blk_drewN ?_ _ | refine blk_drew ?_ | refine blk_alloc ?_ _)); refine blk_far ?_ NB423_425.out _; (with_reducible repeat (first | refine blk_drewN ?_ _ | refine blk_drew ?_ | refine blk_alloc ?_ _)); exact BK423.out⟩, ⟨oB⟩⟩
      ·cases H
     ·cases H
    ·simp only [Option.some.injEq, Prod.mk.injEq] at H
     obtain ⟨rfl, rfl⟩ := H
     go_wp2
     go_ret2
     exact ⟨oE, oB⟩
 ·rw [if_neg c5] at H
  have c5b0 : (t422 == 0) = false := beq_eq_false_iff_ne.mpr c5
  have c5b1 : (t422 != 0) = true := bne_iff_ne.mpr c5
  simp only [Option.some.injEq, Prod.mk.injEq] at H
  obtain ⟨rfl, rfl⟩ := H
  go_enter Tryd.func38, Tryd.ntmps38
  go_wp2_with (first | ((with_reducible refine gate_dst (N := 3) rfl ?_); refine bx_ 3 #[.slice A0_0 l0_0.length c0_0, .int .i64 a0_1] 46 ?_; intro gb409 hg w27 hbox hb; have BK409 := Aside0.mk (hbox); have GW409 := gs_ hg; have GE409 := gs_ hg; replace HB := Aside0.mk (below_step oB hb); clear hb hbox hg; obtain ⟨⟨_, _⟩, _, _⟩ := z2 BK409) | ((with_reducible refine gate_callee (f := 48) rfl ?_); refine gl_ 15 Tryd.func48 (impl_Stat.calls k _ _ l0_0 a0_1 a1 t410 t411 t412 t413 t416 t419 t422 _ (kC HR0_0) HC0_0.out A4.out) ?_; rintro e w29 ⟨v414, v417, v420, rfl, ho0, ho1, ho2, hb⟩; refine ⟨_, rfl, ?_⟩; have HO415 := Aside0.mk (Kd.R_lower ho0 (below_size oB)); have HO418 := Aside0.mk (Kd.R_lower ho1 (below_size oB)); have HO421 := Aside0.mk (Kd.R_lower ho2 (below_size oB)); replace BK409 := kb_ BK409 hb; replace HB := Aside0.mk (below_step oB hb); (try clear ho1); (try clear ho2)) | ((with_reducible refine gate_dst (N := 8) rfl ?_); refine bx_ 8 #[.int .i64 0, .int .i64 0, .int .i64 0, .slice none 0 0, .slice none 0 0, .slice none 0 0] 64 ?_; intro gb423 hg w30 hbox hb; have BK423 := Aside0.mk (hbox); have GW423 := gs_ hg; have GE423 := gs_ hg; have NB409_423 := nl_ hg BK409; have NB423_409 := nr_ hg BK409; replace HO415 := kr_ HO415 hb; replace HO418 := kr_ HO418 hb; replace HO421 := kr_ HO421 hb; replace BK409 := kb_ BK409 hb; replace HB := Aside0.mk (below_step oB hb); clear hb hbox hg; have hnb31 := NB423_409.out; have hnc31 := NB409_423.out; obtain ⟨⟨_, _, _, _, _, _⟩, _, _, _, _, _, _⟩ := z6 BK423; obtain ⟨Ao33, co33, eo33⟩ := Kd.R_slice HO415.out; subst eo33; obtain ⟨Ao34, co34, eo34⟩ := Kd.R_slice HO418.out; subst eo34; obtain ⟨Ao35, co35, eo35⟩ := Kd.R_slice HO421.out; subst eo35))
  go_ret2
  exact ⟨oE, oB⟩

/-! ### laws_FnExactGetAttr: function 10 -/
def laws_FnExactGetAttr.j0 : Nat → Bool → List (S115) → Int → List (S64) → Int → Option (Bool)
 | 0, _, _, _, _, _ => none
 | k + 1, x48, x427000, x427001, x439000, x439001 => if x48 = true then (some false) else ((laws_toTab.f k x427000 x427001).bind fun bt441 => ((laws_eqTab.f k x439000 x439001 bt441.1 bt441.2).bind fun t445 => (if t445 = true then (some true) else (some false))))
def laws_FnExactGetAttr.f (k : Nat) (l0_0 : List (S115)) (a0_1 : Int) (a1 : ByteArray) (a2 : ByteArray) : Option (Bool) := if (a1.size : Int) > 1048576 then (some true) else (if (a2.size : Int) > 1048576 then (some true) else ((laws_szTab.f k l0_0 a0_1 1048576).bind fun t427 => (if t427 < 0 then (some true) else ((laws_toTab.f k l0_0 a0_1).bind fun bt428 => ((spec_GetAttr.f k bt428.1 bt428.2 a1 a2).bind fun bt432 => ((laws_toTab.f k l0_0 a0_1).bind fun bt434 => ((impl_GetAttr.f k bt434.1 bt434.2 a1 a2).bind fun bt439 => (if bt439.1.toList = bt432.1.toList then (laws_FnExactGetAttr.j0 k (bt439.2 != bt432.2) l0_0 a0_1 bt434.1 bt434.2) else (laws_FnExactGetAttr.j0 k true l0_0 a0_1 bt434.1 bt434.2)))))))))
set_option maxHeartbeats 8000000 in
set_option maxRecDepth 100000 in
theorem laws_FnExactGetAttr.calls (k : Nat) (A0_0 : Option Addr) (c0_0 : Nat) (l0_0 : List (S115)) (a0_1 : Int) (a1 : ByteArray) (a2 : ByteArray) (r : Bool) (w : World) (hr0_0 : Kd.C k115 w A0_0 l0_0.length l0_0) (hc0_0 : l0_0.length ≤ c0_0) (h : laws_FnExactGetAttr.f k l0_0 a0_1 a1 a2 = some r) (hG : GOk w := by exact gk_ oB (by first | (with_reducible assumption) | assumption)) :
  Calls Tryd.prog 10 #[.agg #[.slice A0_0 l0_0.length c0_0, .int .i64 a0_1], .string a1, .string a2] w fun e w' => e = .returned (.bool r) ∧ Below w.heap.size w w' := by
 have HG := Aside0.mk hG
 clear hG
 have hu40 := Tryd.underlying40
 have hu46 := Tryd.underlying46
 have HR0_0 := Aside0.mk hr0_0
 have HC0_0 := Aside0.mk hc0_0
 clear hr0_0 hc0_0
 have HB := Aside0.mk (Below.refl w.heap.size w)
 unfold laws_FnExactGetAttr.f at h
 have H := h
 clear h
 by_cases c4 : (a1.size : Int) > 1048576
 ·rw [if_pos c4] at H
  have c4b0 : decide (1048576 < (a1.size : Int)) = true := decide_eq_true c4
  have c4b1 : decide (1048576 < a1.size) = true := decide_eq_true (by omega)
  clear c4
  obtain rfl := Option.some.inj H
  go_enter Tryd.func10, Tryd.ntmps10
  go_wp2_with (first | ((with_reducible refine gate_dst (N := 3) rfl ?_); refine bx_ 3 #[.slice A0_0 l0_0.length c0_0, .int .i64 a0_1] 40 ?_; intro gb426 hg w5 hbox hb; have BK426 := Aside0.mk (hbox); have GW426 := gs_ hg; have GE426 := gs_ hg; replace HB := Aside0.mk (below_step oB hb); clear hb hbox hg))
  go_ret
  exact ⟨oE, oB⟩
 ·rw [if_neg c4] at H
  have c4b0 : decide (1048576 < (a1.size : Int)) = false := decide_eq_false c4
  have c4b1 : decide (1048576 < a1.size) = false := decide_eq_false (by omega)
  clear c4
  by_cases c6 : (a2.size : Int) > 1048576
  ·rw [if_pos c6] at H
   have c6b0 : decide (1048576 < (a2.size : Int)) = true := decide_eq_true c6
   have c6b1 : decide (1048576 < a2.size) = true := decide_eq_true (by omega)
   clear c6
   obtain rfl := Option.some.inj H
   go_enter Tryd.func10, Tryd.ntmps10
   go_wp2_with (first | ((with_reducible refine gate_dst (N := 3) rfl ?_); refine bx_ 3 #[.slice A0_0 l0_0.length c0_0, .int .i64 a0_1] 40 ?_; intro gb426 hg w7 hbox hb; have BK426 := Aside0.mk (hbox); have GW426 := gs_ hg; have GE426 := gs_ hg; replace HB := Aside0.mk (below_step oB hb); clear hb hbox hg))
   go_ret
   exact ⟨oE, oB⟩
  ·rw [if_neg c6] at H
   have c6b0 : decide (1048576 < (a2.size : Int)) = false := decide_eq_false c6
   have c6b1 : decide (1048576 < a2.size) = false := decide_eq_false (by omega)
   clear c6
   replace H := bA H
   obtain ⟨t427, A8, H⟩ := H
   try dsimp only at H
   replace H := itD H
   rcases H with ⟨c9b0, H⟩ | ⟨c9b0, H⟩
   ·obtain rfl := Option.some.inj H
    go_enter Tryd.func10, Tryd.ntmps10
    go_wp2_with (first | ((with_reducible refine gate_dst (N := 3) rfl ?_); refine bx_ 3 #[.slice A0_0 l0_0.length c0_0, .int .i64 a0_1] 40 ?_; intro gb426 hg w10 hbox hb; have BK426 := Aside0.mk (hbox); have GW426 := gs_ hg; have GE426 := gs_ hg; replace HB := Aside0.mk (below_step oB hb); clear hb hbox hg; obtain ⟨⟨_, _⟩, _, _⟩ := z2 BK426) | ((with_reducible refine gate_callee (f := 32) rfl ?_); refine gl_ 21 Tryd.func32 (laws_szTab.calls k _ _ l0_0 a0_1 1048576 t427 _ (kC HR0_0) HC0_0.out A8.out) ?_; rintro e w12 ⟨rfl, hb⟩; refine ⟨_, rfl, ?_⟩; replace BK426 := kb_ BK426 hb; replace HB := Aside0.mk (below_step oB hb)))
    go_ret
    exact ⟨oE, oB⟩
   ·replace H := bA H
    obtain ⟨⟨t428, t431⟩, A13, H⟩ := H
    try dsimp only at H
    replace H := bA H
    obtain ⟨⟨t432, t433⟩, A14, H⟩ := H
    try dsimp only at H
    replace H := bA H
    obtain ⟨⟨t434, t437⟩, A15, H⟩ := H
    try dsimp only at H
    replace H := bA H
    obtain ⟨⟨t439, t440⟩, A16, H⟩ := H
    try dsimp only at H
    have HC17 := Aside0.mk H
    clear H
    go_enter Tryd.func10, Tryd.ntmps10
    go_upto_region 12 with (first | ((with_reducible refine gate_dst (N := 3) rfl ?_); refine bx_ 3 #[.slice A0_0 l0_0.length c0_0, .int .i64 a0_1] 40 ?_; intro gb426 hg w18 hbox hb; have BK426 := Aside0.mk (hbox); have GW426 := gs_ hg; have GE426 := gs_ hg; replace HB := Aside0.mk (below_step oB hb); clear hb hbox hg; obtain ⟨⟨_, _⟩, _, _⟩ := z2 BK426) | ((with_reducible refine gate_callee (f := 32) rfl ?_); refine gl_ 21 Tryd.func32 (laws_szTab.calls k _ _ l0_0 a0_1 1048576 t427 _ (kC HR0_0) HC0_0.out A8.out) ?_; rintro e w20 ⟨rfl, hb⟩; refine ⟨_, rfl, ?_⟩; replace BK426 := kb_ BK426 hb; replace HB := Aside0.mk (below_step oB hb); obtain ⟨⟨_, _⟩, _, _⟩ := z2 BK426) | ((with_reducible refine gate_callee (f := 34) rfl ?_); refine gl_ 26 Tryd.func34 (laws_toTab.calls k _ _ l0_0 a0_1 t428 t431 _ (kC HR0_0) HC0_0.out A13.out) ?_; rintro e w22 ⟨v429, rfl, ho0, hb⟩; refine ⟨_, rfl, ?_⟩; have HO430 := Aside0.mk (Kd.S_lower ho0 (below_size oB)); replace BK426 := kb_ BK426 hb; replace HB := Aside0.mk (below_step oB hb); obtain ⟨Ao23, co23, eo23⟩ := Kd.S_slice HO430.out; subst eo23) | ((with_reducible refine gate_callee (f := 37) rfl ?_); refine gl_ 29 Tryd.func37 (spec_GetAttr.calls k _ _ t428 t431 a1 a2 t432 t433 _ ?side1 ?side2 A14.out) ?_; (case side1 => repeat (first | exact (Kd.S_reads' HO430.out).2.2 | (with_reducible refine Kd.C_alloc ?_ _) | (with_reducible refine Kd.C_drewN ?_ _) | (with_reducible refine Kd.C_drew ?_))); (case side2 => exact (Kd.S_reads' HO430.out).2.1); rintro e w24 ⟨rfl, hb⟩; refine ⟨_, rfl, ?_⟩; replace HO430 := Aside0.mk (Kd.S_below (by (with_reducible repeat (first | apply Kd.S_alloc | apply Kd.S_drewN | apply Kd.S_drew)); exact HO430.out) hb); replace BK426 := kb_ BK426 hb; replace HB := Aside0.mk (below_step oB hb); obtain ⟨⟨_, _⟩, _, _⟩ := z2 BK426) | ((with_reducible refine gate_callee (f := 34) rfl ?_); refine gl_ 33 Tryd.func34 (laws_toTab.calls k _ _ l0_0 a0_1 t434 t437 _ (kC HR0_0) HC0_0.out A15.out) ?_; rintro e w26 ⟨v435, rfl, ho0, hb⟩; refine ⟨_, rfl, ?_⟩; have HO436 := Aside0.mk (Kd.S_lower (Kd.S_new' ho0 (Kd.S_lt (by (with_reducible repeat (first | apply Kd.S_alloc | apply Kd.S_drewN | apply Kd.S_drew)); exact HO430.out))) (below_size oB)); replace HO430 := Aside0.mk (Kd.S_elder' (by (with_reducible repeat (first | apply Kd.S_alloc | apply Kd.S_drewN | apply Kd.S_drew)); exact HO430.out) (Kd.S_base ho0) hb); replace BK426 := kb_ BK426 hb; replace HB := Aside0.mk (below_step oB hb)) | ((with_reducible refine gate_dst (N := 10) rfl ?_); refine bx_ 10 #[.slice none 0 0, .int .i64 0] 46 ?_; intro gb438 hg w27 hbox hb; have BK438 := Aside0.mk (hbox); have GW438 := gs_ hg; have GE438 := gs_ hg; have NB426_438 := nl_ hg BK426; have NB438_426 := nr_ hg BK426; replace HO430 := Aside0.mk (Kd.S_below (by (with_reducible repeat (first | apply Kd.S_alloc | apply Kd.S_drewN | apply Kd.S_drew)); exact HO430.out) hb); replace HO436 := Aside0.mk (Kd.S_below (by (with_reducible repeat (first | apply Kd.S_alloc | apply Kd.S_drewN | apply Kd.S_drew)); exact HO436.out) hb); replace BK426 := kb_ BK426 hb; replace HB := Aside0.mk (below_step oB hb); clear hb hbox hg; obtain ⟨Ao28, co28, eo28⟩ := Kd.S_slice HO436.out; subst eo28; have hnb29 := NB438_426.out; have hnc29 := NB426_438.out; obtain ⟨⟨_, _⟩, _, _⟩ := z2 BK438) | ((with_reducible refine gate_callee (f := 38) rfl ?_); refine gl_ 38 Tryd.func38 (impl_GetAttr.calls k _ _ t434 t437 a1 a2 t439 t440 _ ?side1 ?side2 A16.out) ?_; (case side1 => refine (Kd.S_reads' (e := 64) (base := w.heap.size) (ok := fun k_ => (True ∧ some k_ ≠ (.slice Ao23 t428.length co23 : Value).ownBlock)) (n := t434.length) (c := co28) ?_).2.2; exact (by (with_reducible repeat (first | apply Kd.S_alloc | apply Kd.S_drewN | apply Kd.S_drew)); exact (Kd.S_mono (Kd.S_far (p := ⟨gb438, 1, none⟩) (Kd.S_far (p := ⟨gb438, 0, none⟩) (Kd.S_types HO436.out BK438.out (by decide)) (fun _ hk => hk.2) (.slice Ao28 t434.length co28)) (fun _ hk => hk.2) (.int .i64 t437)) (fun _ h_ => h_.1)))); (case side2 => exact (Kd.S_reads' HO436.out).2.1); rintro e w31 ⟨rfl, hb⟩; refine ⟨_, rfl, ?_⟩; replace HO430 := Aside0.mk (Kd.S_below (by (with_reducible repeat (first | apply Kd.S_alloc | apply Kd.S_drewN | apply Kd.S_drew)); exact (Kd.S_mono (Kd.S_far (p := ⟨gb438, 1, none⟩) (Kd.S_far (p := ⟨gb438, 0, none⟩) (Kd.S_types HO430.out BK438.out (by decide)) (fun _ hk => hk.2) (.slice Ao28 t434.length co28)) (fun _ hk => hk.2) (.int .i64 t437)) (fun _ h_ => h_.1))) hb); replace HO436 := Aside0.mk (Kd.S_below (by (with_reducible repeat (first | apply Kd.S_alloc | apply Kd.S_drewN | apply Kd.S_drew)); exact (Kd.S_mono (Kd.S_far (p := ⟨gb438, 1, none⟩) (Kd.S_far (p := ⟨gb438, 0, none⟩) (Kd.S_types HO436.out BK438.out (by decide)) (fun _ hk => hk.2) (.slice Ao28 t434.length co28)) (fun _ hk => hk.2) (.int .i64 t437)) (fun _ h_ => h_.1))) hb); replace BK426 := Aside0.mk (blk_below (g := gb426) (o := .cells #[.slice A0_0 l0_0.length c0_0, .int .i64 a0_1] 40 (0, 0)) (by (with_reducible repeat (first | refine blk_drewN ?_ _ | refine blk_drew ?_ | refine blk_alloc ?_ _)); refine blk_far ?_ NB426_438.out _; (with_reducible repeat (first | refine blk_drewN ?_ _ | refine blk_drew ?_ | refine blk_alloc ?_ _)); refine blk_far ?_ NB426_438.out _; (with_reducible repeat (first | refine blk_drewN ?_ _ | refine blk_drew ?_ | refine blk_alloc ?_ _)); exact BK426.out) hb); replace BK438 := Aside0.mk (blk_below (g := gb438) (o := .cells #[.slice Ao28 t434.length co28, .int .i64 t437] 46 (0, 0)) (by (with_reducible repeat (first | refine blk_drewN ?_ _ | refine blk_drew ?_ | refine blk_alloc ?_ _)); refine blk_put (cs := #[.slice Ao28 t434.length co28, .int .i64 0]) ?_ 1 _ rfl; (with_reducible repeat (first | refine blk_drewN ?_ _ | refine blk_drew ?_ | refine blk_alloc ?_ _)); refine blk_put (cs := #[.slice none 0 0, .int .i64 0]) ?_ 0 _ rfl; (with_reducible repeat (first | refine blk_drewN ?_ _ | refine blk_drew ?_ | refine blk_alloc ?_ _)); exact BK438.out) hb); replace HB := Aside0.mk (below_step oB hb); (try clear hk)))
    (try simp only [Act.put, List.setIfInBounds_toArray, List.set_cons_zero, List.set_cons_succ])
    go_cut [48] (fun v48 wc => ∃ (kq : Nat) (x48_16 : Bool), v48 = .bool x48_16 ∧ Aside0 (laws_FnExactGetAttr.j0 kq x48_16 l0_0 a0_1 t434 t437 = some r) ∧ Aside0 (kq ≤ k) ∧ Aside0 (Kd.S k64 64 wc w.heap.size (fun _ => True) (.slice Ao28 t434.length co28) t434) ∧ Aside0 (wc.heap[gb426]? = some (.cells #[(.slice A0_0 l0_0.length c0_0), .int .i64 a0_1] 40 (0, 0))) ∧ Aside0 (wc.heap[gb438]? = some (.cells #[(.slice Ao28 t434.length co28), .int .i64 t437] 46 (0, 0))) ∧ Aside0 (Below w.heap.size w wc))
    case first =>
     have H := HC17.out
     clear HC17
     by_cases c32 : t439.toList = t432.toList
     ·rw [if_pos c32] at H
      have c32b0 : (t439.toList == t432.toList) = true := beq_iff_eq.mpr c32
      have c32b1 : (t439.toList != t432.toList) = false := bne_eq_false_iff_eq.mpr c32
      clear c32
      (first | rw [c32b0] | rw [c32b2] | (simp only [i64_w, i32_w]; rw [c32b0]) | skip)
      have H' := Aside0.mk H
      clear H
      go_wp2
      go_meet
      case rel => exact ⟨_, ((t440 != t433)), oS, H', ⟨by first | omega | exact Nat.le_refl _⟩, ⟨by (with_reducible repeat (first | apply Kd.S_alloc | apply Kd.S_drewN | apply Kd.S_drew)); exact Kd.S_mono HO436.out (fun _ hk => trivial)⟩, ⟨oF BK426⟩, ⟨oF BK438⟩, ⟨oB⟩⟩
     ·rw [if_neg c32] at H
      have c32b0 : (t439.toList == t432.toList) = false := beq_eq_false_iff_ne.mpr c32
      have c32b1 : (t439.toList != t432.toList) = true := bne_iff_ne.mpr c32
      (first | rw [c32b0] | rw [c32b2] | (simp only [i64_w, i32_w]; rw [c32b0]) | skip)
      have H' := Aside0.mk H
      clear H
      go_wp2
      go_meet
      case rel => exact ⟨_, (true), oS, H', ⟨by first | omega | exact Nat.le_refl _⟩, ⟨by (with_reducible repeat (first | apply Kd.S_alloc | apply Kd.S_drewN | apply Kd.S_drew)); exact Kd.S_mono HO436.out (fun _ hk => trivial)⟩, ⟨oF BK426⟩, ⟨oF BK438⟩, ⟨oB⟩⟩
    case rest =>
     clear HC17
     try clear c4
     try clear c4b0
     try clear c4b1
     try clear c6
     try clear c6b0
     try clear c6b1
     try clear c9b0
     obtain ⟨kq, x48_16, rfl, HA, HJ16, HO_439000, BK426, BK438, HB⟩ := hcut
     cases kq with
     | zero => exact absurd HA.out (by simp [laws_FnExactGetAttr.j0])
     | succ kj16 =>
      have H := HA.out
      clear HA
      simp only [laws_FnExactGetAttr.j0] at H
      replace H := itB H
      rcases H with ⟨rfl, H⟩ | ⟨rfl, H⟩
      ·obtain rfl := Option.some.inj H
       go_wp2
       go_ret
       exact ⟨oE, oB⟩
      ·replace H := bA H
       obtain ⟨⟨t441, t444⟩, A34, H⟩ := H
       try dsimp only at H
       replace H := bA H
       obtain ⟨t445, A35, H⟩ := H
       try dsimp only at H
       replace H := itB H
       rcases H with ⟨rfl, H⟩ | ⟨rfl, H⟩
       ·obtain rfl := Option.some.inj H
        try go_wp2
        replace HO_439000 := Aside0.mk (Kd.S_drew HO_439000.out)
        replace BK426 := Aside0.mk (blk_drew BK426.out)
        replace BK438 := Aside0.mk (blk_drew BK438.out)
        replace HB := Aside0.mk (below_drew1 HB.out)
        refine start_ (n := 5) (S := fun w' => w'.cell? ⟨gb438, 0, none⟩ = some (.slice Ao28 t434.length co28) ∧ w'.cell? ⟨gb438, 1, none⟩ = some (.int .i64 t437) ∧ w'.cell? ⟨gb426, 0, none⟩ = some (.slice A0_0 l0_0.length c0_0) ∧ w'.cell? ⟨gb426, 1, none⟩ = some (.int .i64 a0_1)) (ds := []) #[false, false, false, false, false] (by kernel_rfl) rfl rfl oH (fun hHeld => ?_)
        generalize wc.drew = w37 at HO_439000 BK426 BK438 HB hHeld ⊢
        refine take_ (i := 0) (N := some 49) (v := ?_) (a' := ?_) #[true, false, false, false, false] rfl rfl (by kernel_rfl) (fun _ _ _ h => h) (Or.inl ⟨by rfl, ?_⟩) hHeld ?_ ?_
        rotate_left
        ·rintro w' ⟨s0, s1, s2, s3⟩
         go_simp
         with_reducible rfl
        rotate_left
        ·simp only [Act.put, List.setIfInBounds_toArray, List.set_cons_zero, List.set_cons_succ, i64_w, i32_w]
         rfl
        refine take_ (i := 1) (N := some 50) (v := ?_) (a' := ?_) #[true, true, false, false, false] rfl rfl (by kernel_rfl) (fun _ _ _ h => h) (Or.inl ⟨by rfl, ?_⟩) hHeld ?_ ?_
        rotate_left
        ·rintro w' ⟨s0, s1, s2, s3⟩
         go_simp
         with_reducible rfl
        rotate_left
        ·simp only [Act.put, List.setIfInBounds_toArray, List.set_cons_zero, List.set_cons_succ, i64_w, i32_w]
         rfl
        refine one_ (i := 2) (N := some 51) #[true, true, true, false, false] rfl rfl (by kernel_rfl) (by decide) (fun K hK => ?_)
        refine gr_ 51 Tryd.func34 (laws_toTab.calls kj16 _ _ l0_0 a0_1 t441 t444 _ (kC HR0_0) HC0_0.out A34.out) ?_
        rintro e w38 ⟨v442, rfl, ho0, hb⟩
        refine ⟨_, rfl, ?_⟩
        have HO443 := Aside0.mk (Kd.S_lower (Kd.S_new' ho0 (Kd.S_lt (by (with_reducible repeat (first | apply Kd.S_alloc | apply Kd.S_drewN | apply Kd.S_drew)); exact HO_439000.out))) (below_size oB))
        replace HO_439000 := Aside0.mk (Kd.S_elder' (by (with_reducible repeat (first | apply Kd.S_alloc | apply Kd.S_drewN | apply Kd.S_drew)); exact HO_439000.out) (Kd.S_base ho0) hb)
        replace BK426 := kb_ BK426 hb
        replace BK438 := kb_ BK438 hb
        replace HB := Aside0.mk (below_step oB hb)
        obtain ⟨Ao39, co39, eo39⟩ := Kd.S_slice HO443.out
        (first | subst eo39 | (injection eo39 with f1_ f2_ f3_; have f4_ := f1_.symm; have f5_ := f3_.symm; clear f1_ f2_ f3_; subst f4_; subst f5_))
        refine hK.out _ _ oH (fun hHeld => ?_)
        clear hK K
        refine norm_ (a' := ?_) ?_ ?_
        rotate_left
        ·show Act.put _ (some 51) _ = _
         simp only [Act.put, List.setIfInBounds_toArray, List.set_cons_zero, List.set_cons_succ, i64_w, i32_w]
         rfl
        refine one_ (i := 3) (N := some 52) #[true, true, true, true, false] rfl rfl (by kernel_rfl) (by decide) (fun K hK => ?_)
        refine gr_ 52 Tryd.func36 (laws_eqTab.calls kj16 _ _ t434 t437 _ _ t441 t444 true _ ?side1 ?side2 ?side3 ?side4 A35.out) ?_
        (case side1 => repeat (first | exact (Kd.S_reads' HO_439000.out).2.2 | (with_reducible refine Kd.C_alloc ?_ _) | (with_reducible refine Kd.C_drewN ?_ _) | (with_reducible refine Kd.C_drew ?_)))
        (case side2 => exact (Kd.S_reads' HO_439000.out).2.1)
        (case side3 => repeat (first | exact (Kd.S_reads' HO443.out).2.2 | (with_reducible refine Kd.C_alloc ?_ _) | (with_reducible refine Kd.C_drewN ?_ _) | (with_reducible refine Kd.C_drew ?_)))
        (case side4 => exact (Kd.S_reads' HO443.out).2.1)
        rintro e w40 ⟨rfl, hb⟩
        refine ⟨_, rfl, ?_⟩
        replace HO_439000 := Aside0.mk (Kd.S_below (by (with_reducible repeat (first | apply Kd.S_alloc | apply Kd.S_drewN | apply Kd.S_drew)); exact HO_439000.out) hb)
        replace HO443 := Aside0.mk (Kd.S_below (by (with_reducible repeat (first | apply Kd.S_alloc | apply Kd.S_drewN | apply Kd.S_drew)); exact HO443.out) hb)
        replace BK426 := kb_ BK426 hb
        replace BK438 := kb_ BK438 hb
        replace HB := Aside0.mk (below_step oB hb)
        refine hK.out _ _ oH (fun hHeld => ?_)
        clear hK K
        refine norm_ (a' := ?_) ?_ ?_
        rotate_left
        ·show Act.put _ (some 52) _ = _
         simp only [Act.put, List.setIfInBounds_toArray, List.set_cons_zero, List.set_cons_succ, i64_w, i32_w]
         rfl
        refine pure_ (i := 4) (N := some 53) (v := ?_) (a' := ?_) #[true, true, true, true, true] rfl rfl (by kernel_rfl) (fun _ _ _ h => h) (Or.inl ⟨by rfl, ?_⟩) ?_ ?_
        rotate_left
        ·intro w'
         go_simp
         with_reducible rfl
        rotate_left
        ·simp only [Act.put, List.setIfInBounds_toArray, List.set_cons_zero, List.set_cons_succ, i64_w, i32_w]
         rfl
        refine done_ (by kernel_rfl) ?_
        try go_wp2
        go_ret
        exact ⟨oE, oB⟩
       ·obtain rfl := Option.some.inj H
        try go_wp2
        replace HO_439000 := Aside0.mk (Kd.S_drew HO_439000.out)
        replace BK426 := Aside0.mk (blk_drew BK426.out)
        replace BK438 := Aside0.mk (blk_drew BK438.out)
        replace HB := Aside0.mk (below_drew1 HB.out)
        refine start_ (n := 5) (S := fun w' => w'.cell? ⟨gb438, 0, none⟩ = some (.slice Ao28 t434.length co28) ∧ w'.cell? ⟨gb438, 1, none⟩ = some (.int .i64 t437) ∧ w'.cell? ⟨gb426, 0, none⟩ = some (.slice A0_0 l0_0.length c0_0) ∧ w'.cell? ⟨gb426, 1, none⟩ = some (.int .i64 a0_1)) (ds := []) #[false, false, false, false, false] (by kernel_rfl) rfl rfl oH (fun hHeld => ?_)
        generalize wc.drew = w41 at HO_439000 BK426 BK438 HB hHeld ⊢
        refine take_ (i := 0) (N := some 49) (v := ?_) (a' := ?_) #[true, false, false, false, false] rfl rfl (by kernel_rfl) (fun _ _ _ h => h) (Or.inl ⟨by rfl, ?_⟩) hHeld ?_ ?_
        rotate_left
        ·rintro w' ⟨s0, s1, s2, s3⟩
         go_simp
         with_reducible rfl
        rotate_left
        ·simp only [Act.put, List.setIfInBounds_toArray, List.set_cons_zero, List.set_cons_succ, i64_w, i32_w]
         rfl
        refine take_ (i := 1) (N := some 50) (v := ?_) (a' := ?_) #[true, true, false, false, false] rfl rfl (by kernel_rfl) (fun _ _ _ h => h) (Or.inl ⟨by rfl, ?_⟩) hHeld ?_ ?_
        rotate_left
        ·rintro w' ⟨s0, s1, s2, s3⟩
         go_simp
         with_reducible rfl
        rotate_left
        ·simp only [Act.put, List.setIfInBounds_toArray, List.set_cons_zero, List.set_cons_succ, i64_w, i32_w]
         rfl
        refine one_ (i := 2) (N := some 51) #[true, true, true, false, false] rfl rfl (by kernel_rfl) (by decide) (fun K hK => ?_)
        refine gr_ 51 Tryd.func34 (laws_toTab.calls kj16 _ _ l0_0 a0_1 t441 t444 _ (kC HR0_0) HC0_0.out A34.out) ?_
        rintro e w42 ⟨v442, rfl, ho0, hb⟩
        refine ⟨_, rfl, ?_⟩
        have HO443 := Aside0.mk (Kd.S_lower (Kd.S_new' ho0 (Kd.S_lt (by (with_reducible repeat (first | apply Kd.S_alloc | apply Kd.S_drewN | apply Kd.S_drew)); exact HO_439000.out))) (below_size oB))
        replace HO_439000 := Aside0.mk (Kd.S_elder' (by (with_reducible repeat (first | apply Kd.S_alloc | apply Kd.S_drewN | apply Kd.S_drew)); exact HO_439000.out) (Kd.S_base ho0) hb)
        replace BK426 := kb_ BK426 hb
        replace BK438 := kb_ BK438 hb
        replace HB := Aside0.mk (below_step oB hb)
        obtain ⟨Ao43, co43, eo43⟩ := Kd.S_slice HO443.out
        (first | subst eo43 | (injection eo43 with f1_ f2_ f3_; have f4_ := f1_.symm; have f5_ := f3_.symm; clear f1_ f2_ f3_; subst f4_; subst f5_))
        refine hK.out _ _ oH (fun hHeld => ?_)
        clear hK K
        refine norm_ (a' := ?_) ?_ ?_
        rotate_left
        ·show Act.put _ (some 51) _ = _
         simp only [Act.put, List.setIfInBounds_toArray, List.set_cons_zero, List.set_cons_succ, i64_w, i32_w]
         rfl
        refine one_ (i := 3) (N := some 52) #[true, true, true, true, false] rfl rfl (by kernel_rfl) (by decide) (fun K hK => ?_)
        refine gr_ 52 Tryd.func36 (laws_eqTab.calls kj16 _ _ t434 t437 _ _ t441 t444 false _ ?side1 ?side2 ?side3 ?side4 A35.out) ?_
        (case side1 => repeat (first | exact (Kd.S_reads' HO_439000.out).2.2 | (with_reducible refine Kd.C_alloc ?_ _) | (with_reducible refine Kd.C_drewN ?_ _) | (with_reducible refine Kd.C_drew ?_)))
        (case side2 => exact (Kd.S_reads' HO_439000.out).2.1)
        (case side3 => repeat (first | exact (Kd.S_reads' HO443.out).2.2 | (with_reducible refine Kd.C_alloc ?_ _) | (with_reducible refine Kd.C_drewN ?_ _) | (with_reducible refine Kd.C_drew ?_)))
        (case side4 => exact (Kd.S_reads' HO443.out).2.1)
        rintro e w44 ⟨rfl, hb⟩
        refine ⟨_, rfl, ?_⟩
        replace HO_439000 := Aside0.mk (Kd.S_below (by (with_reducible repeat (first | apply Kd.S_alloc | apply Kd.S_drewN | apply Kd.S_drew)); exact HO_439000.out) hb)
        replace HO443 := Aside0.mk (Kd.S_below (by (with_reducible repeat (first | apply Kd.S_alloc | apply Kd.S_drewN | apply Kd.S_drew)); exact HO443.out) hb)
        replace BK426 := kb_ BK426 hb
        replace BK438 := kb_ BK438 hb
        replace HB := Aside0.mk (below_step oB hb)
        refine hK.out _ _ oH (fun hHeld => ?_)
        clear hK K
        refine norm_ (a' := ?_) ?_ ?_
        rotate_left
        ·show Act.put _ (some 52) _ = _
         simp only [Act.put, List.setIfInBounds_toArray, List.set_cons_zero, List.set_cons_succ, i64_w, i32_w]
         rfl
        refine pure_ (i := 4) (N := some 53) (v := ?_) (a' := ?_) #[true, true, true, true, true] rfl rfl (by kernel_rfl) (fun _ _ _ h => h) (Or.inl ⟨by rfl, ?_⟩) ?_ ?_
        rotate_left
        ·intro w'
         go_simp
         with_reducible rfl
        rotate_left
        ·simp only [Act.put, List.setIfInBounds_toArray, List.set_cons_zero, List.set_cons_succ, i64_w, i32_w]
         rfl
        refine done_ (by kernel_rfl) ?_
        try go_wp2
        go_ret
        exact ⟨oE, oB⟩

end Go.Proofs.YtkfcmpalbhmmaaaDoor.P
