-- By this session's own program (wip/myprint.py) out of the translation; Lean checks it.
import Derived.Test.YtkknehgaebhbeaaPx0
import Derived.Test.YtkknehgaebhbeaaPx1
import Derived.Test.YtkknehgaebhbeaaPx2
import Derived.Test.YtkknehgaebhbeaaPx3
namespace Go.Proofs.Ytkknehgaebhbeaa.P
open Go.RowKit Go.Proofs.YtkknehgaebhbeaaW.PrintWords Go.Proofs.YtkknehgaebhbeaaW.PrintLast Go.Proofs.YtkknehgaebhbeaaW.PrintMore
attribute [local go_sem] max2_int min2_int max_two min_two max_three min_three max_four min_four   -- for this text's walks alone
set_option linter.unusedVariables false
set_option linter.unusedSimpArgs false

/-! ### slices_Clone_Attr: function 135 -/
def slices_Clone_Attr.f (l0 : List (S85)) : Option ((List (S85))) := (some (([] : List (S85)) : List (S85))).bind fun y281 => (if y281.length + l0.length < 4398046511104 then (some (y281 ++ l0)) else (none))
set_option maxHeartbeats 8000000 in
set_option maxRecDepth 100000 in
theorem slices_Clone_Attr.calls_some (a0_ : Addr) (c0 : Nat) (l0 : List (S85)) (r : List (S85)) (w : World) (hr0 : Kd.C k85 w (some a0_) l0.length l0) (hc0 : l0.length ≤ c0) (h : slices_Clone_Attr.f l0 = some r) :
  Calls Try.prog 135 #[.slice (some a0_) l0.length c0] w fun e w' => ∃ v0_ : Value, e = .returned (v0_) ∧ Kd.R k85 85 w' w.heap.size (fun _ => True) v0_ r ∧ Below w.heap.size w w' := by
 have HR0 := Aside0.mk hr0
 have HC0 := Aside0.mk hc0
 clear hr0 hc0
 have HB := Aside0.mk (Below.refl w.heap.size w)
 unfold slices_Clone_Attr.f at h
 have H := h
 clear h
 obtain ⟨y281, hy281⟩ : ∃ y_ : List (S85), y_ = (([] : List (S85))) := ⟨_, rfl⟩
 replace H : (if y281.length + l0.length < 4398046511104 then (some (y281 ++ l0)) else (none)) = some r := by first | (rw [hy281]; with_reducible exact H) | (have H2_ := (Option.bind_some _ _).symm.trans H; rw [hy281]; with_reducible exact H2_) | (have H2_ := (Option.bind_some _ _).symm.trans H; with_reducible exact H2_) | with_reducible exact H | (rw [hy281]; exact H) | exact H
 have Ny281 := Aside0.mk hy281
 clear hy281
 by_cases c2 : y281.length + l0.length < 4398046511104
 ·rw [if_pos c2] at H
  have LMc2 := Aside0.mk c2
  clear c2
  obtain ⟨y284, hy284⟩ : ∃ y_ : List (S85), y_ = (y281 ++ l0) := ⟨_, rfl⟩
  replace H : (some y284) = some r := by first | (rw [hy284]; with_reducible exact H) | (have H2_ := (Option.bind_some _ _).symm.trans H; rw [hy284]; with_reducible exact H2_) | (have H2_ := (Option.bind_some _ _).symm.trans H; with_reducible exact H2_) | with_reducible exact H | (rw [hy284]; exact H) | exact H
  have Ny284 := Aside0.mk hy284
  clear hy284
  obtain rfl := Option.some.inj H
  have hq_ := Lib.run_eql_slice_nil (P := Try.prog) w 43 85 (some a0_) l0.length c0 0 0 (by kernel_rfl)
  go_enter Try.func135, Try.ntmps135
  go_wp2_with (first | ((with_reducible refine gate_dst (N := 5) rfl ?_); refine Kd.R_lit k85 _ 85 ?hg (N := 5) ?hd (xs := ([] : List (S85))) (inner := []) (ok := fun _ => True) (okp := fun _ => True) ?hr ?hp (fun _ hk => hk) trivial (Below.refl _ _) (Nat.le_refl _) (by simp) ?_; (case hd => rfl); (case hg => rfl); (case hr => first | (go_simp; done) | (go_simp; rfl)); (case hp => exact (Reps.none _ _)); intro v282 w3 ho4 hb hg_ hnew_; clear hg_ hnew_; (first | rw [← Ny281.out] at ho4 | (simp only [Int.reduceToNat] at ho4; rw [← Ny281.out] at ho4)); have HO283 := Aside0.mk (Kd.R_lower ho4 (below_size oB)); replace HB := Aside0.mk (below_step oB hb); clear hb ho4) | ((with_reducible refine gate_builtin (b := .append) (xs := #[.tmp 5, .tmp 6]) rfl ?_); at_builtin; refine Kd.R_append_rows k85 (w0 := w) w.heap.size rfl (.tmp 5) (.tmp 6) 43 85 (.agg #[(.string ⟨#[]⟩), (.string ⟨#[]⟩)]) 32 rfl Try.underlying43 info85 rfl (by decide) (by omega) v282 y281 l0 _ _ _ (fun _ => True) (fun _ => False) rfl rfl ?aO ?aR (fun _ _ h => h) (fun _ h => h.elim) ?aF ?aB ?aS ?aL ?_; (case aR => repeat (first | exact (Kd.C_below HR0.out HB.out) | (with_reducible refine Kd.C_alloc ?_ _) | (with_reducible refine Kd.C_drewN ?_ _) | (with_reducible refine Kd.C_drew ?_))); (case aB => exact oB); (case aF => exact (fun _ _ => trivial)); (case aO => exact (oR HO283)); (case aS => exact (below_size oB)); (case aL => have := LMc2.out; omega); intro v285 w5 ho hb hg hat; rw [← Ny284.out] at ho; have HO286 := Aside0.mk (ho); replace HB := Aside0.mk (hb); clear HO283; clear ho hb hg hat))
  go_ret
  exact ⟨_, oE, oR HO286, oB⟩
 ·rw [if_neg c2] at H
  exact absurd H (by simp)

set_option maxHeartbeats 8000000 in
set_option maxRecDepth 100000 in
theorem slices_Clone_Attr.calls (A0 : Option Addr) (c0 : Nat) (l0 : List (S85)) (r : List (S85)) (w : World) (hr0 : Kd.C k85 w A0 l0.length l0) (hc0 : l0.length ≤ c0) (h : slices_Clone_Attr.f l0 = some r) :
  Calls Try.prog 135 #[.slice A0 l0.length c0] w fun e w' => ∃ v0_ : Value, e = .returned (v0_) ∧ Kd.R k85 85 w' w.heap.size (fun _ => True) v0_ r ∧ Below w.heap.size w w' := by
 rcases A0 with _ | a0_
 ·have hl_ : l0 = [] := by
   rcases Nat.eq_zero_or_pos l0.length with hz_ | hz_
   ·exact List.eq_nil_of_length_eq_zero hz_
   ·obtain ⟨ad_, he_, _⟩ := hr0.2.2 hz_
    cases he_
  subst hl_
  obtain rfl : r = [] := by
   simp [slices_Clone_Attr.f] at h
   exact h
  have hq_ := Lib.run_eql_slice_nil (P := Try.prog) w 43 85 none 0 c0 0 0 (by kernel_rfl)
  go_enter Try.func135, Try.ntmps135
  go_wp2
  go_ret
  exact ⟨_, rfl, Kd.R_nil _ _ _ _ _, Below.refl _ _⟩
 ·exact slices_Clone_Attr.calls_some a0_ c0 l0 r w hr0 hc0 h

/-! ### impl_copyInode: function 104 -/
def impl_copyInode.f (a0_0 : Int) (a0_1 : Int) (a0_2 : Int) (l0_3 : List Int) (l0_4 : List (S83)) (l0_5 : List (S85)) : Option (Int × Int × Int × List Int × (List (S83)) × (List (S85))) := (slices_Clone_byte_byte.f l0_3).bind fun t289 => ((slices_Clone_Ent.f l0_4).bind fun t292 => ((slices_Clone_Attr.f l0_5).bind fun t295 => (some (a0_0, a0_1, a0_2, t289, t292, t295))))
set_option maxHeartbeats 8000000 in
set_option maxRecDepth 100000 in
theorem impl_copyInode.calls (a0_0 : Int) (a0_1 : Int) (a0_2 : Int) (A0_3 : Option Addr) (c0_3 : Nat) (l0_3 : List Int) (A0_4 : Option Addr) (c0_4 : Nat) (l0_4 : List (S83)) (A0_5 : Option Addr) (c0_5 : Nat) (l0_5 : List (S85)) (r1 : Int) (r2 : Int) (r3 : Int) (r4 : List Int) (r5 : List (S83)) (r6 : List (S85)) (w : World) (hr0_3 : Kd.C (Kd.int .u8) w A0_3 l0_3.length l0_3) (hc0_3 : l0_3.length ≤ c0_3) (hr0_4 : Kd.C k83 w A0_4 l0_4.length l0_4) (hc0_4 : l0_4.length ≤ c0_4) (hr0_5 : Kd.C k85 w A0_5 l0_5.length l0_5) (hc0_5 : l0_5.length ≤ c0_5) (h : impl_copyInode.f a0_0 a0_1 a0_2 l0_3 l0_4 l0_5 = some (r1, r2, r3, r4, r5, r6)) :
  Calls Try.prog 104 #[.agg #[.int .i64 a0_0, .int .i64 a0_1, .int .i64 a0_2, .slice A0_3 l0_3.length c0_3, .slice A0_4 l0_4.length c0_4, .slice A0_5 l0_5.length c0_5]] w fun e w' => ∃ v3_ v4_ v5_ : Value, e = .returned (.agg #[.int .i64 r1, .int .i64 r2, .int .i64 r3, v3_, v4_, v5_]) ∧ Kd.R (Kd.int .u8) 5 w' w.heap.size (fun _ => True) v3_ r4 ∧ Kd.R k83 83 w' w.heap.size (fun _ => True) v4_ r5 ∧ Kd.R k85 85 w' w.heap.size (fun _ => True) v5_ r6 ∧ Below w.heap.size w w' := by
 have hu45 := Try.underlying45
 have HR0_3 := Aside0.mk hr0_3
 have HC0_3 := Aside0.mk hc0_3
 clear hr0_3 hc0_3
 have HR0_4 := Aside0.mk hr0_4
 have HC0_4 := Aside0.mk hc0_4
 clear hr0_4 hc0_4
 have HR0_5 := Aside0.mk hr0_5
 have HC0_5 := Aside0.mk hc0_5
 clear hr0_5 hc0_5
 have HB := Aside0.mk (Below.refl w.heap.size w)
 unfold impl_copyInode.f at h
 have H := h
 clear h
 replace H := bA H
 obtain ⟨t289, A2, H⟩ := H
 try dsimp only at H
 replace H := bA H
 obtain ⟨t292, A3, H⟩ := H
 try dsimp only at H
 replace H := bA H
 obtain ⟨t295, A4, H⟩ := H
 try dsimp only at H
 simp only [Option.some.injEq, Prod.mk.injEq] at H
 obtain ⟨rfl, rfl, rfl, rfl, rfl, rfl⟩ := H
 go_enter Try.func104, Try.ntmps104
 go_wp2_with (first | ((with_reducible refine gate_dst (N := 1) rfl ?_); refine bx_ 1 #[.int .i64 a0_0, .int .i64 a0_1, .int .i64 a0_2, .slice A0_3 l0_3.length c0_3, .slice A0_4 l0_4.length c0_4, .slice A0_5 l0_5.length c0_5] 45 ?_; intro gb287 hg w5 hbox hb; have BK287 := Aside0.mk (hbox); have GW287 := gs_ hg; have GE287 := gs_ hg; replace HB := Aside0.mk (below_step oB hb); clear hb hbox hg) | ((with_reducible refine gate_dst (N := 2) rfl ?_); refine bx_ 2 #[.int .i64 0, .int .i64 0, .int .i64 0, .slice none 0 0, .slice none 0 0, .slice none 0 0] 45 ?_; intro gb288 hg w6 hbox hb; have BK288 := Aside0.mk (hbox); have GW288 := gs_ hg; have GE288 := gs_ hg; have NB287_288 := nl_ hg BK287; have NB288_287 := nr_ hg BK287; replace BK287 := kb_ BK287 hb; replace HB := Aside0.mk (below_step oB hb); clear hb hbox hg; have hnb7 := NB287_288.out; have hnc7 := NB288_287.out; obtain ⟨⟨_, _, _, _, _, _⟩, _, _, _, _, _, _⟩ := z6 BK287) | ((with_reducible refine gate_callee (f := 131) rfl ?_); refine gl_ 5 Try.func131 (slices_Clone_byte_byte.calls _ _ l0_3 t289 _ (kC HR0_3) HC0_3.out A2.out) ?_; rintro e w9 ⟨v290, rfl, ho0, hb⟩; refine ⟨_, rfl, ?_⟩; have HO291 := Aside0.mk (Kd.R_lower ho0 (below_size oB)); replace BK287 := kb_ BK287 hb; replace BK288 := kb_ BK288 hb; replace HB := Aside0.mk (below_step oB hb); obtain ⟨Ao10, co10, eo10⟩ := Kd.R_slice HO291.out; subst eo10; obtain ⟨⟨_, _, _, _, _, _⟩, _, _, _, _, _, _⟩ := z6 BK287) | ((with_reducible refine gate_callee (f := 134) rfl ?_); refine gl_ 9 Try.func134 (slices_Clone_Ent.calls _ _ l0_4 t292 _ ?side1 HC0_4.out A3.out) ?_; (case side1 => exact Kd.C_below HR0_4.out oB); rintro e w12 ⟨v293, rfl, ho0, hb⟩; refine ⟨_, rfl, ?_⟩; have HO294 := Aside0.mk (Kd.R_lower ho0 (below_size oB)); replace HO291 := Aside0.mk (Kd.R_below (by (with_reducible repeat (first | apply Kd.R_alloc | apply Kd.R_drewN | apply Kd.R_drew)); exact (Kd.R_mono (Kd.R_far (p := ⟨gb287, 3, none⟩) (Kd.R_types HO291.out BK287.out (by decide)) (fun _ hk => hk.2) (.slice Ao10 t289.length co10)) (fun _ h_ => h_.1))) hb); replace BK287 := Aside0.mk (blk_below (g := gb287) (o := .cells #[.int .i64 a0_0, .int .i64 a0_1, .int .i64 a0_2, .slice Ao10 t289.length co10, .slice A0_4 l0_4.length c0_4, .slice A0_5 l0_5.length c0_5] 45 (0, 0)) (by (with_reducible repeat (first | refine blk_drewN ?_ _ | refine blk_drew ?_ | refine blk_alloc ?_ _)); refine blk_put (cs := #[.int .i64 a0_0, .int .i64 a0_1, .int .i64 a0_2, .slice A0_3 l0_3.length c0_3, .slice A0_4 l0_4.length c0_4, .slice A0_5 l0_5.length c0_5]) ?_ 3 _ rfl; (with_reducible repeat (first | refine blk_drewN ?_ _ | refine blk_drew ?_ | refine blk_alloc ?_ _)); exact BK287.out) hb); replace BK288 := Aside0.mk (blk_below (g := gb288) (o := .cells #[.int .i64 0, .int .i64 0, .int .i64 0, .slice none 0 0, .slice none 0 0, .slice none 0 0] 45 (0, 0)) (by (with_reducible repeat (first | refine blk_drewN ?_ _ | refine blk_drew ?_ | refine blk_alloc ?_ _)); refine blk_far ?_ NB288_287.out _; (with_reducible repeat (first | refine blk_drewN ?_ _ | refine blk_drew ?_ | refine blk_alloc ?_ _)); exact BK288.out) hb); replace HB := Aside0.mk (below_step oB hb); (try clear hk); obtain ⟨Ao13, co13, eo13⟩ := Kd.R_slice HO294.out; subst eo13; obtain ⟨⟨_, _, _, _, _, _⟩, _, _, _, _, _, _⟩ := z6 BK287) | ((with_reducible refine gate_callee (f := 135) rfl ?_); refine gl_ 13 Try.func135 (slices_Clone_Attr.calls _ _ l0_5 t295 _ ?side1 HC0_5.out A4.out) ?_; (case side1 => exact Kd.C_below HR0_5.out oB); rintro e w15 ⟨v296, rfl, ho0, hb⟩; refine ⟨_, rfl, ?_⟩; have HO297 := Aside0.mk (Kd.R_lower ho0 (below_size oB)); replace HO291 := Aside0.mk (Kd.R_below (by (with_reducible repeat (first | apply Kd.R_alloc | apply Kd.R_drewN | apply Kd.R_drew)); exact (Kd.R_mono (Kd.R_far (p := ⟨gb287, 4, none⟩) (Kd.R_types HO291.out BK287.out (by decide)) (fun _ hk => hk.2) (.slice Ao13 t292.length co13)) (fun _ h_ => h_.1))) hb); replace HO294 := Aside0.mk (Kd.R_below (by (with_reducible repeat (first | apply Kd.R_alloc | apply Kd.R_drewN | apply Kd.R_drew)); exact (Kd.R_mono (Kd.R_far (p := ⟨gb287, 4, none⟩) (Kd.R_types HO294.out BK287.out (by decide)) (fun _ hk => hk.2) (.slice Ao13 t292.length co13)) (fun _ h_ => h_.1))) hb); replace BK287 := Aside0.mk (blk_below (g := gb287) (o := .cells #[.int .i64 a0_0, .int .i64 a0_1, .int .i64 a0_2, .slice Ao10 t289.length co10, .slice Ao13 t292.length co13, .slice A0_5 l0_5.length c0_5] 45 (0, 0)) (by (with_reducible repeat (first | refine blk_drewN ?_ _ | refine blk_drew ?_ | refine blk_alloc ?_ _)); refine blk_put (cs := #[.int .i64 a0_0, .int .i64 a0_1, .int .i64 a0_2, .slice Ao10 t289.length co10, .slice A0_4 l0_4.length c0_4, .slice A0_5 l0_5.length c0_5]) ?_ 4 _ rfl; (with_reducible repeat (first | refine blk_drewN ?_ _ | refine blk_drew ?_ | refine blk_alloc ?_ _)); exact BK287.out) hb); replace BK288 := Aside0.mk (blk_below (g := gb288) (o := .cells #[.int .i64 0, .int .i64 0, .int .i64 0, .slice none 0 0, .slice none 0 0, .slice none 0 0] 45 (0, 0)) (by (with_reducible repeat (first | refine blk_drewN ?_ _ | refine blk_drew ?_ | refine blk_alloc ?_ _)); refine blk_far ?_ NB288_287.out _; (with_reducible repeat (first | refine blk_drewN ?_ _ | refine blk_drew ?_ | refine blk_alloc ?_ _)); exact BK288.out) hb); replace HB := Aside0.mk (below_step oB hb); (try clear hk); obtain ⟨Ao16, co16, eo16⟩ := Kd.R_slice HO297.out; subst eo16; obtain ⟨⟨_, _, _, _, _, _⟩, _, _, _, _, _, _⟩ := z6 BK287; obtain ⟨⟨_, _, _, _, _, _⟩, _, _, _, _, _, _⟩ := z6 BK288))
 refine bodyPost_ret (results_cell_row rfl _ _ gb288 45 #[.int .i64 a0_0, .int .i64 a0_1, .int .i64 a0_2, .slice Ao10 t289.length co10, .slice Ao13 t292.length co13, .slice Ao16 t295.length co16] (0, 0) _ rfl (by (with_reducible repeat (first | refine blk_drewN ?_ _ | refine blk_drew ?_ | refine blk_alloc ?_ _)); refine blk_put (cs := #[.int .i64 a0_0, .int .i64 a0_1, .int .i64 a0_2, .slice Ao10 t289.length co10, .slice Ao13 t292.length co13, .slice none 0 0]) ?_ 5 _ rfl; (with_reducible repeat (first | refine blk_drewN ?_ _ | refine blk_drew ?_ | refine blk_alloc ?_ _)); refine blk_put (cs := #[.int .i64 a0_0, .int .i64 a0_1, .int .i64 a0_2, .slice Ao10 t289.length co10, .slice none 0 0, .slice none 0 0]) ?_ 4 _ rfl; (with_reducible repeat (first | refine blk_drewN ?_ _ | refine blk_drew ?_ | refine blk_alloc ?_ _)); refine blk_put (cs := #[.int .i64 a0_0, .int .i64 a0_1, .int .i64 a0_2, .slice none 0 0, .slice none 0 0, .slice none 0 0]) ?_ 3 _ rfl; (with_reducible repeat (first | refine blk_drewN ?_ _ | refine blk_drew ?_ | refine blk_alloc ?_ _)); refine blk_put (cs := #[.int .i64 a0_0, .int .i64 a0_1, .int .i64 0, .slice none 0 0, .slice none 0 0, .slice none 0 0]) ?_ 2 _ rfl; (with_reducible repeat (first | refine blk_drewN ?_ _ | refine blk_drew ?_ | refine blk_alloc ?_ _)); refine blk_put (cs := #[.int .i64 a0_0, .int .i64 0, .int .i64 0, .slice none 0 0, .slice none 0 0, .slice none 0 0]) ?_ 1 _ rfl; (with_reducible repeat (first | refine blk_drewN ?_ _ | refine blk_drew ?_ | refine blk_alloc ?_ _)); refine blk_put (cs := #[.int .i64 0, .int .i64 0, .int .i64 0, .slice none 0 0, .slice none 0 0, .slice none 0 0]) ?_ 0 _ rfl; (with_reducible repeat (first | refine blk_drewN ?_ _ | refine blk_drew ?_ | refine blk_alloc ?_ _)); refine blk_far ?_ NB288_287.out _; (with_reducible repeat (first | refine blk_drewN ?_ _ | refine blk_drew ?_ | refine blk_alloc ?_ _)); exact BK288.out) Try.underlying45 rfl (by kernel_rfl)) rfl ?_
 exact ⟨_, _, _, oE, by (with_reducible repeat (first | apply Kd.R_alloc | apply Kd.R_drewN | apply Kd.R_drew)); exact Kd.R_mono (Kd.R_far (p := ⟨gb288, 5, none⟩) (Kd.R_far (p := ⟨gb288, 4, none⟩) (Kd.R_far (p := ⟨gb288, 3, none⟩) (Kd.R_far (p := ⟨gb288, 2, none⟩) (Kd.R_far (p := ⟨gb288, 1, none⟩) (Kd.R_far (p := ⟨gb288, 0, none⟩) (Kd.R_far (p := ⟨gb287, 5, none⟩) (Kd.R_types (Kd.R_types HO291.out BK287.out (by decide)) BK288.out (by decide)) (fun _ hk => hk.1.2) (.slice Ao16 t295.length co16)) (fun _ hk => hk.2) (.int .i64 a0_0)) (fun _ hk => hk.2) (.int .i64 a0_1)) (fun _ hk => hk.2) (.int .i64 a0_2)) (fun _ hk => hk.2) (.slice Ao10 t289.length co10)) (fun _ hk => hk.2) (.slice Ao13 t292.length co13)) (fun _ hk => hk.2) (.slice Ao16 t295.length co16)) (fun _ hk => trivial), by (with_reducible repeat (first | apply Kd.R_alloc | apply Kd.R_drewN | apply Kd.R_drew)); exact Kd.R_mono (Kd.R_far (p := ⟨gb288, 5, none⟩) (Kd.R_far (p := ⟨gb288, 4, none⟩) (Kd.R_far (p := ⟨gb288, 3, none⟩) (Kd.R_far (p := ⟨gb288, 2, none⟩) (Kd.R_far (p := ⟨gb288, 1, none⟩) (Kd.R_far (p := ⟨gb288, 0, none⟩) (Kd.R_far (p := ⟨gb287, 5, none⟩) (Kd.R_types (Kd.R_types HO294.out BK287.out (by decide)) BK288.out (by decide)) (fun _ hk => hk.1.2) (.slice Ao16 t295.length co16)) (fun _ hk => hk.2) (.int .i64 a0_0)) (fun _ hk => hk.2) (.int .i64 a0_1)) (fun _ hk => hk.2) (.int .i64 a0_2)) (fun _ hk => hk.2) (.slice Ao10 t289.length co10)) (fun _ hk => hk.2) (.slice Ao13 t292.length co13)) (fun _ hk => hk.2) (.slice Ao16 t295.length co16)) (fun _ hk => trivial), by (with_reducible repeat (first | apply Kd.R_alloc | apply Kd.R_drewN | apply Kd.R_drew)); exact Kd.R_mono (Kd.R_far (p := ⟨gb288, 5, none⟩) (Kd.R_far (p := ⟨gb288, 4, none⟩) (Kd.R_far (p := ⟨gb288, 3, none⟩) (Kd.R_far (p := ⟨gb288, 2, none⟩) (Kd.R_far (p := ⟨gb288, 1, none⟩) (Kd.R_far (p := ⟨gb288, 0, none⟩) (Kd.R_far (p := ⟨gb287, 5, none⟩) (Kd.R_types (Kd.R_types HO297.out BK287.out (by decide)) BK288.out (by decide)) (fun _ hk => hk.1.2) (.slice Ao16 t295.length co16)) (fun _ hk => hk.2) (.int .i64 a0_0)) (fun _ hk => hk.2) (.int .i64 a0_1)) (fun _ hk => hk.2) (.int .i64 a0_2)) (fun _ hk => hk.2) (.slice Ao10 t289.length co10)) (fun _ hk => hk.2) (.slice Ao13 t292.length co13)) (fun _ hk => hk.2) (.slice Ao16 t295.length co16)) (fun _ hk => trivial), oB⟩

/-! ### impl_copyTab: function 107 -/
def impl_copyTab.l0 : Nat → List (S45) → Int → Int → List (S45) → Int → Option ((List (S45)) × Int)
 | 0, _, _, _, _, _ => none
 | k + 1, x10, x11, x12, x301000, x301001 => if x12 < x11 then (if 0 ≤ x12 then (if x12 < (x10.length : Int) then ((impl_copyInode.f ((rd_T45 x10 x12).f0) ((rd_T45 x10 x12).f1) ((rd_T45 x10 x12).f2) ((rd_T45 x10 x12).f3) ((rd_T45 x10 x12).f4) ((rd_T45 x10 x12).f5)).bind fun bt303 => (if x301000.length < 1466015503701 then (impl_copyTab.l0 k x10 x11 (wrap64 (x12 + 1)) (x301000 ++ [(⟨bt303.1, bt303.2.1, bt303.2.2.1, bt303.2.2.2.1, bt303.2.2.2.2.1, bt303.2.2.2.2.2⟩ : S45)]) x301001) else (none))) else (none)) else (none)) else (some (x301000, x301001))
def impl_copyTab.f (k : Nat) (l0_0 : List (S45)) (a0_1 : Int) : Option ((List (S45)) × Int) := impl_copyTab.l0 k l0_0 (l0_0.length : Int) 0 ([] : List (S45)) a0_1
def impl_copyTab.T5 : Bool × List (List Nat × List Nat) := (true, [([], []), ([0], [0]), ([], []), ([2], [2]), ([3], [3]), ([1, 4, 3], [1, 4]), ([0, 1, 2, 3, 4, 5], []), ([6, 5, 5, 0, 1, 2, 3, 4, 5], [5, 6])])
def impl_copyTab.B5 : List Nat := [0, 1, 0, 4, 12, 31, 63, 127]
theorem impl_copyTab.tab5 : rtab .any (opsOf Try.f107 5) = impl_copyTab.T5 := by kernel_rfl
theorem impl_copyTab.bits5 : waitsOk impl_copyTab.T5.2 impl_copyTab.B5 = true := by kernel_rfl
set_option maxHeartbeats 8000000 in
set_option maxRecDepth 100000 in
theorem impl_copyTab.calls (k : Nat) (A0_0 : Option Addr) (c0_0 : Nat) (l0_0 : List (S45)) (a0_1 : Int) (r1 : List (S45)) (r2 : Int) (w : World) (hr0_0 : Kd.C k45 w A0_0 l0_0.length l0_0) (hc0_0 : l0_0.length ≤ c0_0) (h : impl_copyTab.f k l0_0 a0_1 = some (r1, r2)) :
  Calls Try.prog 107 #[.agg #[.slice A0_0 l0_0.length c0_0, .int .i64 a0_1]] w fun e w' => ∃ v0_ : Value, e = .returned (.agg #[v0_, .int .i64 r2]) ∧ Kd.S k45 45 w' w.heap.size (fun _ => True) v0_ r1 ∧ Below w.heap.size w w' := by
 have hu30 := Try.underlying30
 have hu45 := Try.underlying45
 have HR0_0 := Aside0.mk hr0_0
 have HC0_0 := Aside0.mk hc0_0
 clear hr0_0 hc0_0
 have HB := Aside0.mk (Below.refl w.heap.size w)
 unfold impl_copyTab.f at h
 have H := h
 clear h
 have H' := Aside0.mk H
 clear H
 go_enter Try.func107, Try.ntmps107
 go_wp2_with (first | ((with_reducible refine gate_dst (N := 1) rfl ?_); refine bx_ 1 #[.slice A0_0 l0_0.length c0_0, .int .i64 a0_1] 30 ?_; intro gb298 hg w2 hbox hb; have BK298 := Aside0.mk (hbox); have GW298 := gs_ hg; have GE298 := gs_ hg; replace HB := Aside0.mk (below_step oB hb); clear hb hbox hg) | ((with_reducible refine gate_dst (N := 2) rfl ?_); refine bx_ 2 #[.slice none 0 0, .int .i64 0] 30 ?_; intro gb299 hg w3 hbox hb; have BK299 := Aside0.mk (hbox); have GW299 := gs_ hg; have GE299 := gs_ hg; have NB298_299 := nl_ hg BK298; have NB299_298 := nr_ hg BK298; replace BK298 := kb_ BK298 hb; replace HB := Aside0.mk (below_step oB hb); clear hb hbox hg; have hnb4 := NB298_299.out; have hnc4 := NB299_298.out; obtain ⟨⟨_, _⟩, _, _⟩ := z2 BK298) | ((with_reducible refine gate_dst (N := 3) rfl ?_); refine bx_ 3 #[.slice none 0 0, .int .i64 0] 30 ?_; intro gb300 hg w6 hbox hb; have BK300 := Aside0.mk (hbox); have GW300 := gs_ hg; have GE300 := gs_ hg; have NB298_300 := nl_ hg BK298; have NB300_298 := nr_ hg BK298; have NB299_300 := nl_ hg BK299; have NB300_299 := nr_ hg BK299; replace BK298 := kb_ BK298 hb; replace BK299 := kb_ BK299 hb; replace HB := Aside0.mk (below_step oB hb); clear hb hbox hg; have hnb7 := NB300_298.out; have hnc7 := NB298_300.out; have hnb8 := NB300_299.out; have hnc8 := NB299_300.out; obtain ⟨⟨_, _⟩, _, _⟩ := z2 BK300; obtain ⟨⟨_, _⟩, _, _⟩ := z2 BK298))
 go_loopg [12] k (fun kq v12 w' => ∃ (x12_1 : Int) (x301000_1 : List (S45)) (u301000 : Value), v12 = .int .i64 x12_1 ∧ Aside0 (impl_copyTab.l0 kq l0_0 (l0_0.length : Int) x12_1 x301000_1 a0_1 = some (r1, r2)) ∧ Aside0 (kq ≤ k) ∧ Aside0 (Kd.S k45 45 w' w.heap.size (fun _ => True) u301000 x301000_1) ∧ Aside0 (w'.heap[gb298]? = some (.cells #[(.slice A0_0 l0_0.length c0_0), .int .i64 a0_1] 30 (0, 0))) ∧ Aside0 (w'.heap[gb299]? = some (.cells #[(.slice none 0 0), .int .i64 0] 30 (0, 0))) ∧ Aside0 (w'.heap[gb300]? = some (.cells #[u301000, .int .i64 a0_1] 30 (0, 0))) ∧ Aside0 (Below w.heap.size w w'))
 case atStart => exact ⟨(0), (([] : List (S45))), (.slice none 0 0), oS, H', ⟨Nat.le_refl _⟩, ⟨by first | exact Kd.S_nil _ _ _ _ _ | exact Kd.N_nil _ _ _ _ _ | exact Kd.V_nil _ _ _ _ _ | exact Kd.Q_nil _ _ _ _ _ | exact Kd.R_nil _ _ _ _ _⟩, ⟨by (with_reducible repeat (first | refine blk_drewN ?_ _ | refine blk_drew ?_ | refine blk_alloc ?_ _)); refine blk_far ?_ NB298_300.out _; (with_reducible repeat (first | refine blk_drewN ?_ _ | refine blk_drew ?_ | refine blk_alloc ?_ _)); refine blk_far ?_ NB298_300.out _; (with_reducible repeat (first | refine blk_drewN ?_ _ | refine blk_drew ?_ | refine blk_alloc ?_ _)); exact BK298.out⟩, ⟨by (with_reducible repeat (first | refine blk_drewN ?_ _ | refine blk_drew ?_ | refine blk_alloc ?_ _)); refine blk_far ?_ NB299_300.out _; (with_reducible repeat (first | refine blk_drewN ?_ _ | refine blk_drew ?_ | refine blk_alloc ?_ _)); refine blk_far ?_ NB299_300.out _; (with_reducible repeat (first | refine blk_drewN ?_ _ | refine blk_drew ?_ | refine blk_alloc ?_ _)); exact BK299.out⟩, ⟨by (with_reducible repeat (first | refine blk_drewN ?_ _ | refine blk_drew ?_ | refine blk_alloc ?_ _)); refine blk_put (cs := #[.slice none 0 0, .int .i64 0]) ?_ 1 _ rfl; (with_reducible repeat (first | refine blk_drewN ?_ _ | refine blk_drew ?_ | refine blk_alloc ?_ _)); refine blk_put (cs := #[.slice none 0 0, .int .i64 0]) ?_ 0 _ rfl; (with_reducible repeat (first | refine blk_drewN ?_ _ | refine blk_drew ?_ | refine blk_alloc ?_ _)); exact BK300.out⟩, ⟨oB⟩⟩
 case round =>
  clear H'
  obtain ⟨x12_1, x301000_1, u301000, rfl, HA, HK1, HO_301000, BK298, BK299, BK300, HB⟩ := hrel
  cases gk with
  | zero => exact absurd HA.out (by simp [impl_copyTab.l0])
  | succ k1 =>
   have H := HA.out
   clear HA
   simp only [impl_copyTab.l0] at H
   replace H := itD H
   rcases H with ⟨c11b0, H⟩ | ⟨c11b0, H⟩
   ·replace H := itD H
    rcases H with ⟨c12b0, H⟩ | ⟨c12b0, H⟩
    ·replace H := itD H
     rcases H with ⟨c13b0, H⟩ | ⟨c13b0, H⟩
     ·replace H := bA H
      obtain ⟨⟨t303, t304, t305, t306, t309, t312⟩, A14, H⟩ := H
      try dsimp only at H
      by_cases c15 : x301000_1.length < 1466015503701
      ·rw [if_pos c15] at H
       have LMc15 := Aside0.mk c15
       clear c15
       obtain ⟨y315, hy315⟩ : ∃ y_ : List (S45), y_ = (x301000_1 ++ [(⟨t303, t304, t305, t306, t309, t312⟩ : S45)]) := ⟨_, rfl⟩
       replace H : (impl_copyTab.l0 k1 l0_0 (l0_0.length : Int) (wrap64 (x12_1 + 1)) y315 a0_1) = some (r1, r2) := by first | (rw [hy315]; with_reducible exact H) | (have H2_ := (Option.bind_some _ _).symm.trans H; rw [hy315]; with_reducible exact H2_) | (have H2_ := (Option.bind_some _ _).symm.trans H; with_reducible exact H2_) | with_reducible exact H | (rw [hy315]; exact H) | exact H
       have Ny315 := Aside0.mk hy315
       clear hy315
       have H' := Aside0.mk H
       clear H
       have p301 : (0 ≤ (x12_1 : Int)) = True := oT
       have q301 : (x12_1 < (l0_0.length : Int)) = True := oT
       obtain ⟨ad301, A301_3, c301_3, A301_4, c301_4, A301_5, c301_5, e301, hx301_0, hx301_1, hx301_2, hx301_3, hx301_4, hx301_5, hl301_3, hi301_3, hl301_4, hi301_4, hl301_5, hi301_5⟩ := at_T45 HR0_0.out x12_1 oa oa
       cases e301
       replace hx301_0 := cB HB hx301_0
       replace hx301_1 := cB HB hx301_1
       replace hx301_2 := cB HB hx301_2
       replace hx301_3 := cB HB hx301_3
       replace hx301_4 := cB HB hx301_4
       replace hx301_5 := cB HB hx301_5
       have HR301_3 := Aside0.mk hi301_3
       have HC301_3 := Aside0.mk hl301_3
       clear hi301_3 hl301_3
       have HR301_4 := Aside0.mk hi301_4
       have HC301_4 := Aside0.mk hl301_4
       clear hi301_4 hl301_4
       have HR301_5 := Aside0.mk hi301_5
       have HC301_5 := Aside0.mk hl301_5
       clear hi301_5 hl301_5
       try go_wp2_with (first | ((with_reducible refine gate_dst (N := 5) rfl ?_); refine bx_ 5 #[.int .i64 0, .int .i64 0, .int .i64 0, .slice none 0 0, .slice none 0 0, .slice none 0 0] 45 ?_; intro gb302 hg w16 hbox hb; have BK302 := Aside0.mk (hbox); have GW302 := gs_ hg; have GE302 := gs_ hg; have NB298_302 := nl_ hg BK298; have NB302_298 := nr_ hg BK298; have NB299_302 := nl_ hg BK299; have NB302_299 := nr_ hg BK299; have NB300_302 := nl_ hg BK300; have NB302_300 := nr_ hg BK300; replace HO_301000 := Aside0.mk (Kd.S_below (Kd.S_elderB (by (with_reducible repeat (first | apply Kd.S_alloc | apply Kd.S_drewN | apply Kd.S_drew)); exact HO_301000.out) gb302 (Nat.le_of_eq hg.symm)) hb); replace BK298 := kb_ BK298 hb; replace BK299 := kb_ BK299 hb; replace BK300 := kb_ BK300 hb; replace HB := Aside0.mk (below_step oB hb); clear hb hbox hg; have hnb17 := NB302_298.out; have hnc17 := NB298_302.out; have hnb18 := NB302_299.out; have hnc18 := NB299_302.out; have hnb19 := NB302_300.out; have hnc19 := NB300_302.out; obtain ⟨⟨_, _, _, _, _, _⟩, _, _, _, _, _, _⟩ := z6 BK302))
       have n0_ : Aside0 (Kd.S k45 45 ((((((w16.setCell ⟨gb302, 0, none⟩ (.int .i64 ((rd_T45 l0_0 x12_1).f0))).setCell ⟨gb302, 1, none⟩ (.int .i64 ((rd_T45 l0_0 x12_1).f1))).setCell ⟨gb302, 2, none⟩ (.int .i64 ((rd_T45 l0_0 x12_1).f2))).setCell ⟨gb302, 3, none⟩ (.slice A301_3 ((rd_T45 l0_0 x12_1).f3).length c301_3)).setCell ⟨gb302, 4, none⟩ (.slice A301_4 ((rd_T45 l0_0 x12_1).f4).length c301_4)).setCell ⟨gb302, 5, none⟩ (.slice A301_5 ((rd_T45 l0_0 x12_1).f5).length c301_5)) w.heap.size (fun k_ => k_ ≠ gb302) u301000 x301000_1) := ⟨by (with_reducible repeat (first | apply Kd.S_alloc | apply Kd.S_drewN | apply Kd.S_drew)); exact Kd.S_mono (Kd.S_far (p := ⟨gb302, 5, none⟩) (Kd.S_far (p := ⟨gb302, 4, none⟩) (Kd.S_far (p := ⟨gb302, 3, none⟩) (Kd.S_far (p := ⟨gb302, 2, none⟩) (Kd.S_far (p := ⟨gb302, 1, none⟩) (Kd.S_far (p := ⟨gb302, 0, none⟩) (Kd.S_mono HO_301000.out (fun k_ hk => (⟨hk, hk.2⟩ : _ ∧ k_ ≠ gb302))) (fun _ hk => hk.2) (.int .i64 ((rd_T45 l0_0 x12_1).f0))) (fun _ hk => hk.2) (.int .i64 ((rd_T45 l0_0 x12_1).f1))) (fun _ hk => hk.2) (.int .i64 ((rd_T45 l0_0 x12_1).f2))) (fun _ hk => hk.2) (.slice A301_3 ((rd_T45 l0_0 x12_1).f3).length c301_3)) (fun _ hk => hk.2) (.slice A301_4 ((rd_T45 l0_0 x12_1).f4).length c301_4)) (fun _ hk => hk.2) (.slice A301_5 ((rd_T45 l0_0 x12_1).f5).length c301_5)) (fun _ hk => hk.1.2)⟩
       have n1_ : Aside0 (((((((w16.setCell ⟨gb302, 0, none⟩ (.int .i64 ((rd_T45 l0_0 x12_1).f0))).setCell ⟨gb302, 1, none⟩ (.int .i64 ((rd_T45 l0_0 x12_1).f1))).setCell ⟨gb302, 2, none⟩ (.int .i64 ((rd_T45 l0_0 x12_1).f2))).setCell ⟨gb302, 3, none⟩ (.slice A301_3 ((rd_T45 l0_0 x12_1).f3).length c301_3)).setCell ⟨gb302, 4, none⟩ (.slice A301_4 ((rd_T45 l0_0 x12_1).f4).length c301_4)).setCell ⟨gb302, 5, none⟩ (.slice A301_5 ((rd_T45 l0_0 x12_1).f5).length c301_5)).heap[gb298]? = some (.cells #[.slice (some ad301) l0_0.length c0_0, .int .i64 a0_1] 30 (0, 0))) := ⟨by (with_reducible repeat (first | refine blk_drewN ?_ _ | refine blk_drew ?_ | refine blk_alloc ?_ _)); refine blk_far ?_ NB298_302.out _; (with_reducible repeat (first | refine blk_drewN ?_ _ | refine blk_drew ?_ | refine blk_alloc ?_ _)); refine blk_far ?_ NB298_302.out _; (with_reducible repeat (first | refine blk_drewN ?_ _ | refine blk_drew ?_ | refine blk_alloc ?_ _)); refine blk_far ?_ NB298_302.out _; (with_reducible repeat (first | refine blk_drewN ?_ _ | refine blk_drew ?_ | refine blk_alloc ?_ _)); refine blk_far ?_ NB298_302.out _; (with_reducible repeat (first | refine blk_drewN ?_ _ | refine blk_drew ?_ | refine blk_alloc ?_ _)); refine blk_far ?_ NB298_302.out _; (with_reducible repeat (first | refine blk_drewN ?_ _ | refine blk_drew ?_ | refine blk_alloc ?_ _)); refine blk_far ?_ NB298_302.out _; (with_reducible repeat (first | refine blk_drewN ?_ _ | refine blk_drew ?_ | refine blk_alloc ?_ _)); exact BK298.out⟩
       have n2_ : Aside0 (((((((w16.setCell ⟨gb302, 0, none⟩ (.int .i64 ((rd_T45 l0_0 x12_1).f0))).setCell ⟨gb302, 1, none⟩ (.int .i64 ((rd_T45 l0_0 x12_1).f1))).setCell ⟨gb302, 2, none⟩ (.int .i64 ((rd_T45 l0_0 x12_1).f2))).setCell ⟨gb302, 3, none⟩ (.slice A301_3 ((rd_T45 l0_0 x12_1).f3).length c301_3)).setCell ⟨gb302, 4, none⟩ (.slice A301_4 ((rd_T45 l0_0 x12_1).f4).length c301_4)).setCell ⟨gb302, 5, none⟩ (.slice A301_5 ((rd_T45 l0_0 x12_1).f5).length c301_5)).heap[gb299]? = some (.cells #[.slice none 0 0, .int .i64 0] 30 (0, 0))) := ⟨by (with_reducible repeat (first | refine blk_drewN ?_ _ | refine blk_drew ?_ | refine blk_alloc ?_ _)); refine blk_far ?_ NB299_302.out _; (with_reducible repeat (first | refine blk_drewN ?_ _ | refine blk_drew ?_ | refine blk_alloc ?_ _)); refine blk_far ?_ NB299_302.out _; (with_reducible repeat (first | refine blk_drewN ?_ _ | refine blk_drew ?_ | refine blk_alloc ?_ _)); refine blk_far ?_ NB299_302.out _; (with_reducible repeat (first | refine blk_drewN ?_ _ | refine blk_drew ?_ | refine blk_alloc ?_ _)); refine blk_far ?_ NB299_302.out _; (with_reducible repeat (first | refine blk_drewN ?_ _ | refine blk_drew ?_ | refine blk_alloc ?_ _)); refine blk_far ?_ NB299_302.out _; (with_reducible repeat (first | refine blk_drewN ?_ _ | refine blk_drew ?_ | refine blk_alloc ?_ _)); refine blk_far ?_ NB299_302.out _; (with_reducible repeat (first | refine blk_drewN ?_ _ | refine blk_drew ?_ | refine blk_alloc ?_ _)); exact BK299.out⟩
       have n3_ : Aside0 (((((((w16.setCell ⟨gb302, 0, none⟩ (.int .i64 ((rd_T45 l0_0 x12_1).f0))).setCell ⟨gb302, 1, none⟩ (.int .i64 ((rd_T45 l0_0 x12_1).f1))).setCell ⟨gb302, 2, none⟩ (.int .i64 ((rd_T45 l0_0 x12_1).f2))).setCell ⟨gb302, 3, none⟩ (.slice A301_3 ((rd_T45 l0_0 x12_1).f3).length c301_3)).setCell ⟨gb302, 4, none⟩ (.slice A301_4 ((rd_T45 l0_0 x12_1).f4).length c301_4)).setCell ⟨gb302, 5, none⟩ (.slice A301_5 ((rd_T45 l0_0 x12_1).f5).length c301_5)).heap[gb300]? = some (.cells #[u301000, .int .i64 a0_1] 30 (0, 0))) := ⟨by (with_reducible repeat (first | refine blk_drewN ?_ _ | refine blk_drew ?_ | refine blk_alloc ?_ _)); refine blk_far ?_ NB300_302.out _; (with_reducible repeat (first | refine blk_drewN ?_ _ | refine blk_drew ?_ | refine blk_alloc ?_ _)); refine blk_far ?_ NB300_302.out _; (with_reducible repeat (first | refine blk_drewN ?_ _ | refine blk_drew ?_ | refine blk_alloc ?_ _)); refine blk_far ?_ NB300_302.out _; (with_reducible repeat (first | refine blk_drewN ?_ _ | refine blk_drew ?_ | refine blk_alloc ?_ _)); refine blk_far ?_ NB300_302.out _; (with_reducible repeat (first | refine blk_drewN ?_ _ | refine blk_drew ?_ | refine blk_alloc ?_ _)); refine blk_far ?_ NB300_302.out _; (with_reducible repeat (first | refine blk_drewN ?_ _ | refine blk_drew ?_ | refine blk_alloc ?_ _)); refine blk_far ?_ NB300_302.out _; (with_reducible repeat (first | refine blk_drewN ?_ _ | refine blk_drew ?_ | refine blk_alloc ?_ _)); exact BK300.out⟩
       have n4_ : Aside0 (((((((w16.setCell ⟨gb302, 0, none⟩ (.int .i64 ((rd_T45 l0_0 x12_1).f0))).setCell ⟨gb302, 1, none⟩ (.int .i64 ((rd_T45 l0_0 x12_1).f1))).setCell ⟨gb302, 2, none⟩ (.int .i64 ((rd_T45 l0_0 x12_1).f2))).setCell ⟨gb302, 3, none⟩ (.slice A301_3 ((rd_T45 l0_0 x12_1).f3).length c301_3)).setCell ⟨gb302, 4, none⟩ (.slice A301_4 ((rd_T45 l0_0 x12_1).f4).length c301_4)).setCell ⟨gb302, 5, none⟩ (.slice A301_5 ((rd_T45 l0_0 x12_1).f5).length c301_5)).heap[gb302]? = some (.cells #[.int .i64 ((rd_T45 l0_0 x12_1).f0), .int .i64 ((rd_T45 l0_0 x12_1).f1), .int .i64 ((rd_T45 l0_0 x12_1).f2), .slice A301_3 ((rd_T45 l0_0 x12_1).f3).length c301_3, .slice A301_4 ((rd_T45 l0_0 x12_1).f4).length c301_4, .slice A301_5 ((rd_T45 l0_0 x12_1).f5).length c301_5] 45 (0, 0))) := ⟨by (with_reducible repeat (first | refine blk_drewN ?_ _ | refine blk_drew ?_ | refine blk_alloc ?_ _)); refine blk_put (cs := #[.int .i64 ((rd_T45 l0_0 x12_1).f0), .int .i64 ((rd_T45 l0_0 x12_1).f1), .int .i64 ((rd_T45 l0_0 x12_1).f2), .slice A301_3 ((rd_T45 l0_0 x12_1).f3).length c301_3, .slice A301_4 ((rd_T45 l0_0 x12_1).f4).length c301_4, .slice none 0 0]) ?_ 5 _ rfl; (with_reducible repeat (first | refine blk_drewN ?_ _ | refine blk_drew ?_ | refine blk_alloc ?_ _)); refine blk_put (cs := #[.int .i64 ((rd_T45 l0_0 x12_1).f0), .int .i64 ((rd_T45 l0_0 x12_1).f1), .int .i64 ((rd_T45 l0_0 x12_1).f2), .slice A301_3 ((rd_T45 l0_0 x12_1).f3).length c301_3, .slice none 0 0, .slice none 0 0]) ?_ 4 _ rfl; (with_reducible repeat (first | refine blk_drewN ?_ _ | refine blk_drew ?_ | refine blk_alloc ?_ _)); refine blk_put (cs := #[.int .i64 ((rd_T45 l0_0 x12_1).f0), .int .i64 ((rd_T45 l0_0 x12_1).f1), .int .i64 ((rd_T45 l0_0 x12_1).f2), .slice none 0 0, .slice none 0 0, .slice none 0 0]) ?_ 3 _ rfl; (with_reducible repeat (first | refine blk_drewN ?_ _ | refine blk_drew ?_ | refine blk_alloc ?_ _)); refine blk_put (cs := #[.int .i64 ((rd_T45 l0_0 x12_1).f0), .int .i64 ((rd_T45 l0_0 x12_1).f1), .int .i64 0, .slice none 0 0, .slice none 0 0, .slice none 0 0]) ?_ 2 _ rfl; (with_reducible repeat (first | refine blk_drewN ?_ _ | refine blk_drew ?_ | refine blk_alloc ?_ _)); refine blk_put (cs := #[.int .i64 ((rd_T45 l0_0 x12_1).f0), .int .i64 0, .int .i64 0, .slice none 0 0, .slice none 0 0, .slice none 0 0]) ?_ 1 _ rfl; (with_reducible repeat (first | refine blk_drewN ?_ _ | refine blk_drew ?_ | refine blk_alloc ?_ _)); refine blk_put (cs := #[.int .i64 0, .int .i64 0, .int .i64 0, .slice none 0 0, .slice none 0 0, .slice none 0 0]) ?_ 0 _ rfl; (with_reducible repeat (first | refine blk_drewN ?_ _ | refine blk_drew ?_ | refine blk_alloc ?_ _)); exact BK302.out⟩
       have n5_ : Aside0 (Below w.heap.size w ((((((w16.setCell ⟨gb302, 0, none⟩ (.int .i64 ((rd_T45 l0_0 x12_1).f0))).setCell ⟨gb302, 1, none⟩ (.int .i64 ((rd_T45 l0_0 x12_1).f1))).setCell ⟨gb302, 2, none⟩ (.int .i64 ((rd_T45 l0_0 x12_1).f2))).setCell ⟨gb302, 3, none⟩ (.slice A301_3 ((rd_T45 l0_0 x12_1).f3).length c301_3)).setCell ⟨gb302, 4, none⟩ (.slice A301_4 ((rd_T45 l0_0 x12_1).f4).length c301_4)).setCell ⟨gb302, 5, none⟩ (.slice A301_5 ((rd_T45 l0_0 x12_1).f5).length c301_5))) := ⟨oB⟩
       (try clear HO_301000)
       (try clear BK298)
       (try clear BK299)
       (try clear BK300)
       (try clear BK302)
       (try clear HB)
       generalize ((((((w16.setCell ⟨gb302, 0, none⟩ (.int .i64 ((rd_T45 l0_0 x12_1).f0))).setCell ⟨gb302, 1, none⟩ (.int .i64 ((rd_T45 l0_0 x12_1).f1))).setCell ⟨gb302, 2, none⟩ (.int .i64 ((rd_T45 l0_0 x12_1).f2))).setCell ⟨gb302, 3, none⟩ (.slice A301_3 ((rd_T45 l0_0 x12_1).f3).length c301_3)).setCell ⟨gb302, 4, none⟩ (.slice A301_4 ((rd_T45 l0_0 x12_1).f4).length c301_4)).setCell ⟨gb302, 5, none⟩ (.slice A301_5 ((rd_T45 l0_0 x12_1).f5).length c301_5)) = w21 at n0_ n1_ n2_ n3_ n4_ n5_ ⊢
       have HO_301000 := n0_
       have BK298 := n1_
       have BK299 := n2_
       have BK300 := n3_
       have BK302 := n4_
       have HB := n5_
       clear n0_ n1_ n2_ n3_ n4_ n5_
       replace HO_301000 := Aside0.mk (Kd.S_drew HO_301000.out)
       replace BK298 := Aside0.mk (blk_drew BK298.out)
       replace BK299 := Aside0.mk (blk_drew BK299.out)
       replace BK300 := Aside0.mk (blk_drew BK300.out)
       replace BK302 := Aside0.mk (blk_drew BK302.out)
       replace HB := Aside0.mk (below_drew1 HB.out)
       refine start_ (n := 8) (S := fun w' => w'.cell? ⟨gb300, 0, none⟩ = some (u301000) ∧ w'.cell? ⟨gb300, 1, none⟩ = some (.int .i64 a0_1) ∧ w'.cell? ⟨gb302, 0, none⟩ = some (.int .i64 ((rd_T45 l0_0 x12_1).f0)) ∧ w'.cell? ⟨gb302, 1, none⟩ = some (.int .i64 ((rd_T45 l0_0 x12_1).f1)) ∧ w'.cell? ⟨gb302, 2, none⟩ = some (.int .i64 ((rd_T45 l0_0 x12_1).f2)) ∧ w'.cell? ⟨gb302, 3, none⟩ = some (.slice A301_3 ((rd_T45 l0_0 x12_1).f3).length c301_3) ∧ w'.cell? ⟨gb302, 4, none⟩ = some (.slice A301_4 ((rd_T45 l0_0 x12_1).f4).length c301_4) ∧ w'.cell? ⟨gb302, 5, none⟩ = some (.slice A301_5 ((rd_T45 l0_0 x12_1).f5).length c301_5)) (ds := [7]) #[false, false, false, false, false, false, false, false] (by kernel_rfl) rfl rfl oH (fun hHeld => ?_); refine with_tabW impl_copyTab.tab5 impl_copyTab.bits5 (fun HT_ HW_ => ?_)
       generalize w21.drew = w22 at HO_301000 BK298 BK299 BK300 BK302 HB hHeld ⊢
       refine pure_ (i := 0) (N := some 16) (v := ?_) (a' := ?_) #[true, false, false, false, false, false, false, false] rfl rfl (any_of HT_.out (by kernel_rfl)) (fun _ _ _ h => h) (Or.inl ⟨by rfl, ?_⟩) ?_ ?_
       rotate_left
       ·intro w'
        go_simp
        with_reducible rfl
       rotate_left
       ·simp only [Act.put, List.setIfInBounds_toArray, List.set_cons_zero, List.set_cons_succ, i64_w, i32_w]
        rfl
       refine take_ (i := 1) (N := some 17) (v := ?_) (a' := ?_) #[true, true, false, false, false, false, false, false] rfl rfl (take_ofW HT_.out HW_.out (by kernel_rfl)) (fun _ _ _ h => h) (Or.inl ⟨by rfl, ?_⟩) hHeld ?_ ?_
       rotate_left
       ·rintro w' ⟨s0, s1, s2, s3, s4, s5, s6, s7⟩
        go_simp
        with_reducible rfl
       rotate_left
       ·simp only [Act.put, List.setIfInBounds_toArray, List.set_cons_zero, List.set_cons_succ, i64_w, i32_w]
        rfl
       refine take_ (i := 2) (N := some 18) (v := ?_) (a' := ?_) #[true, true, true, false, false, false, false, false] rfl rfl (take_ofW HT_.out HW_.out (by kernel_rfl)) (fun _ _ _ h => h) (Or.inl ⟨by rfl, ?_⟩) hHeld ?_ ?_
       rotate_left
       ·rintro w' ⟨s0, s1, s2, s3, s4, s5, s6, s7⟩
        go_simp
        with_reducible rfl
       rotate_left
       ·simp only [Act.put, List.setIfInBounds_toArray, List.set_cons_zero, List.set_cons_succ, i64_w, i32_w]
        rfl
       refine one_ (i := 3) (N := some 19) #[true, true, true, true, false, false, false, false] rfl rfl (one_of HT_.out (by kernel_rfl)) (by decide) (fun K hK => ?_)
       refine gr_ 19 Try.func104 (impl_copyInode.calls ((rd_T45 l0_0 x12_1).f0) ((rd_T45 l0_0 x12_1).f1) ((rd_T45 l0_0 x12_1).f2) _ _ ((rd_T45 l0_0 x12_1).f3) _ _ ((rd_T45 l0_0 x12_1).f4) _ _ ((rd_T45 l0_0 x12_1).f5) t303 t304 t305 t306 t309 t312 _ (kC HR301_3) HC301_3.out (kC HR301_4) HC301_4.out (kC HR301_5) HC301_5.out A14.out) ?_
       rintro e w23 ⟨v307, v310, v313, rfl, ho0, ho1, ho2, hb⟩
       refine ⟨_, rfl, ?_⟩
       have HO308 := Aside0.mk (Kd.R_lower ho0 (below_size oB))
       have HO311 := Aside0.mk (Kd.R_lower ho1 (below_size oB))
       have HO314 := Aside0.mk (Kd.R_lower ho2 (below_size oB))
       replace HO_301000 := Aside0.mk (Kd.S_mono (Kd.S_told (Kd.S_told (Kd.S_told (Kd.S_old (by (with_reducible repeat (first | apply Kd.S_alloc | apply Kd.S_drewN | apply Kd.S_drew)); exact HO_301000.out) hb) (Kd.R_base ho0)) (Kd.R_base ho1)) (Kd.R_base ho2)) (fun _ h_ => h_.1))
       replace BK298 := kb_ BK298 hb
       replace BK299 := kb_ BK299 hb
       replace BK300 := kb_ BK300 hb
       replace BK302 := kb_ BK302 hb
       replace HB := Aside0.mk (below_step oB hb)
       (try clear ho1)
       (try clear ho2)
       obtain ⟨Ao25, co25, eo25⟩ := Kd.R_slice HO308.out
       (first | subst eo25 | (injection eo25 with f1_ f2_ f3_; have f4_ := f1_.symm; have f5_ := f3_.symm; clear f1_ f2_ f3_; subst f4_; subst f5_))
       obtain ⟨Ao26, co26, eo26⟩ := Kd.R_slice HO311.out
       (first | subst eo26 | (injection eo26 with f1_ f2_ f3_; have f4_ := f1_.symm; have f5_ := f3_.symm; clear f1_ f2_ f3_; subst f4_; subst f5_))
       obtain ⟨Ao27, co27, eo27⟩ := Kd.R_slice HO314.out
       (first | subst eo27 | (injection eo27 with f1_ f2_ f3_; have f4_ := f1_.symm; have f5_ := f3_.symm; clear f1_ f2_ f3_; subst f4_; subst f5_))
       refine hK.out _ _ oH (fun hHeld => ?_)
       clear hK K
       refine norm_ (a' := ?_) ?_ ?_
       rotate_left
       ·show Act.put _ (some 19) _ = _
        simp only [Act.put, List.setIfInBounds_toArray, List.set_cons_zero, List.set_cons_succ, i64_w, i32_w]
        rfl
       refine one_ (i := 4) (N := some 20) #[true, true, true, true, true, false, false, false] rfl rfl (one_of HT_.out (by kernel_rfl)) (by decide) (fun K hK => ?_)
       refine value_ (w1 := ?_) (v := ?_) (by rfl) rfl ?_ ?_
       rotate_left 2
       ·go_simp
        constructor
        ·rfl
        ·rfl
       refine hK.out _ _ ⟨(blk_cell (blk_alloc BK300.out _) 0).trans rfl, (blk_cell (blk_alloc BK300.out _) 1).trans rfl, (blk_cell (blk_alloc BK302.out _) 0).trans rfl, (blk_cell (blk_alloc BK302.out _) 1).trans rfl, (blk_cell (blk_alloc BK302.out _) 2).trans rfl, (blk_cell (blk_alloc BK302.out _) 3).trans rfl, (blk_cell (blk_alloc BK302.out _) 4).trans rfl, (blk_cell (blk_alloc BK302.out _) 5).trans rfl⟩ (fun hHeld => ?_)
       clear hK K
       refine norm_ (a' := ?_) ?_ ?_
       rotate_left
       ·show Act.put _ (some 20) _ = _
        simp only [Act.put, List.setIfInBounds_toArray, List.set_cons_zero, List.set_cons_succ, i64_w, i32_w]
        rfl
       refine one_ (i := 5) (N := some 21) #[true, true, true, true, true, true, false, false] rfl rfl (one_of HT_.out (by kernel_rfl)) (by decide) (fun K hK => ?_)
       refine Kd.S_append_step k45 (w0 := w) w.heap.size (by rfl) (.tmp 17) (.tmp 20) 28 45 (.agg #[(.int .i64 0), (.int .i64 0), (.int .i64 0), (.slice none 0 0), (.slice none 0 0), (.slice none 0 0)]) 96 rfl Try.underlying28 info45 rfl (by decide) (by omega) u301000 x301000_1 (⟨t303, t304, t305, t306, t309, t312⟩ : S45) [.int .i64 t303, .int .i64 t304, .int .i64 t305, .slice Ao25 t306.length co25, .slice Ao26 t309.length co26, .slice Ao27 t312.length co27] (fun k_ => k_ ≠ gb302) (fun k_ => some k_ = (.slice Ao25 t306.length co25 : Value).ownBlock ∨ some k_ = (.slice Ao26 t309.length co26 : Value).ownBlock ∨ some k_ = (.slice Ao27 t312.length co27 : Value).ownBlock) rfl rfl ?aP (fun k_ hk_ => hk_.elim (fun h_ => ((Kd.R_mono (ok' := fun k_ => ((fun k_ => k_ ≠ gb302)) k_ ∧ some k_ ≠ (u301000 : Value).ownBlock) (Kd.R_types (Kd.R_apart' (HO308.out) (Kd.S_typed HO_301000.out) (by decide)) BK302.out (by decide)) (fun k_ hk => ⟨hk.2, hk.1.2⟩))).1 k_ h_.symm) (fun h_ => h_.elim (fun h_ => ((Kd.R_mono (ok' := fun k_ => ((fun k_ => k_ ≠ gb302)) k_ ∧ some k_ ≠ (u301000 : Value).ownBlock) (Kd.R_types (Kd.R_apart' (HO311.out) (Kd.S_typed HO_301000.out) (by decide)) BK302.out (by decide)) (fun k_ hk => ⟨hk.2, hk.1.2⟩))).1 k_ h_.symm) (fun h_ => ((Kd.R_mono (ok' := fun k_ => ((fun k_ => k_ ≠ gb302)) k_ ∧ some k_ ≠ (u301000 : Value).ownBlock) (Kd.R_types (Kd.R_apart' (HO314.out) (Kd.S_typed HO_301000.out) (by decide)) BK302.out (by decide)) (fun k_ hk => ⟨hk.2, hk.1.2⟩))).1 k_ h_.symm))) ?aF ?aO ?aB ?aS ?aL ?_
       (case aP => exact k45_mkM _ _ _ (⟨t303, t304, t305, t306, t309, t312⟩ : S45) (Kd.R_mono (Kd.R_tight rfl (Kd.R_mono (ok' := fun k_ => ((fun k_ => k_ ≠ gb302)) k_ ∧ some k_ ≠ (u301000 : Value).ownBlock) (Kd.R_types (Kd.R_apart' (HO308.out) (Kd.S_typed HO_301000.out) (by decide)) BK302.out (by decide)) (fun k_ hk => ⟨hk.2, hk.1.2⟩))) (fun _ h_ => Or.inl h_)) (Kd.R_mono (Kd.R_tight rfl (Kd.R_mono (ok' := fun k_ => ((fun k_ => k_ ≠ gb302)) k_ ∧ some k_ ≠ (u301000 : Value).ownBlock) (Kd.R_types (Kd.R_apart' (HO311.out) (Kd.S_typed HO_301000.out) (by decide)) BK302.out (by decide)) (fun k_ hk => ⟨hk.2, hk.1.2⟩))) (fun _ h_ => Or.inr (Or.inl h_))) (Kd.R_mono (Kd.R_tight rfl (Kd.R_mono (ok' := fun k_ => ((fun k_ => k_ ≠ gb302)) k_ ∧ some k_ ≠ (u301000 : Value).ownBlock) (Kd.R_types (Kd.R_apart' (HO314.out) (Kd.S_typed HO_301000.out) (by decide)) BK302.out (by decide)) (fun k_ hk => ⟨hk.2, hk.1.2⟩))) (fun _ h_ => Or.inr (Or.inr (h_)))))
       (case aB => exact oB)
       (case aF => exact (fun k_ hk => Kd.freshB (g := gb302) (o := .cells #[.int .i64 ((rd_T45 l0_0 x12_1).f0), .int .i64 ((rd_T45 l0_0 x12_1).f1), .int .i64 ((rd_T45 l0_0 x12_1).f2), .slice A301_3 ((rd_T45 l0_0 x12_1).f3).length c301_3, .slice A301_4 ((rd_T45 l0_0 x12_1).f4).length c301_4, .slice A301_5 ((rd_T45 l0_0 x12_1).f5).length c301_5] 45 (0, 0)) (oF BK302) k_ hk))
       (case aO => exact (by (with_reducible repeat (first | apply Kd.S_alloc | apply Kd.S_drewN | apply Kd.S_drew)); exact Kd.S_mono HO_301000.out (fun k_ hk => ⟨hk.1.1.1, fun e_ => e_.elim (fun h_ => hk.1.1.2 h_) (fun h_ => h_.elim (fun h_ => hk.1.2 h_) (fun h_ => hk.2 h_))⟩)))
       (case aS => exact (below_size oB))
       (case aL => have := LMc15.out; omega)
       intro v316 w24 ho hb hg hat
       rw [← Ny315.out] at ho
       have HO317 := Aside0.mk (ho)
       replace BK298 := Aside0.mk (blk_grown (g := gb298) (o := .cells #[.slice (some ad301) l0_0.length c0_0, .int .i64 a0_1] 30 (0, 0)) (oF BK298) hg (Kd.S_ne HO_301000.out BK298.out (by decide)))
       replace BK299 := Aside0.mk (blk_grown (g := gb299) (o := .cells #[.slice none 0 0, .int .i64 0] 30 (0, 0)) (oF BK299) hg (Kd.S_ne HO_301000.out BK299.out (by decide)))
       replace BK300 := Aside0.mk (blk_grown (g := gb300) (o := .cells #[u301000, .int .i64 a0_1] 30 (0, 0)) (oF BK300) hg (Kd.S_ne HO_301000.out BK300.out (by decide)))
       replace BK302 := Aside0.mk (blk_grown (g := gb302) (o := .cells #[.int .i64 ((rd_T45 l0_0 x12_1).f0), .int .i64 ((rd_T45 l0_0 x12_1).f1), .int .i64 ((rd_T45 l0_0 x12_1).f2), .slice A301_3 ((rd_T45 l0_0 x12_1).f3).length c301_3, .slice A301_4 ((rd_T45 l0_0 x12_1).f4).length c301_4, .slice A301_5 ((rd_T45 l0_0 x12_1).f5).length c301_5] 45 (0, 0)) (oF BK302) hg (Kd.S_away HO_301000.out (fun _ hk => hk.1.1.1)))
       replace HB := Aside0.mk (hb)
       clear HO_301000
       clear HO308
       clear HO311
       clear HO314
       clear ho hb hg hat
       obtain ⟨Ao28, co28, eo28⟩ := Kd.S_slice HO317.out
       (first | subst eo28 | (injection eo28 with f1_ f2_ f3_; have f4_ := f1_.symm; have f5_ := f3_.symm; clear f1_ f2_ f3_; subst f4_; subst f5_))
       refine hK.out _ _ oH (fun hHeld => ?_)
       clear hK K
       refine norm_ (a' := ?_) ?_ ?_
       rotate_left
       ·show Act.put _ (some 21) _ = _
        simp only [Act.put, List.setIfInBounds_toArray, List.set_cons_zero, List.set_cons_succ, i64_w, i32_w]
        rfl
       refine pure_ (i := 6) (N := some 22) (v := ?_) (a' := ?_) #[true, true, true, true, true, true, true, false] rfl rfl (any_of HT_.out (by kernel_rfl)) (fun _ _ _ h => h) (Or.inl ⟨by rfl, ?_⟩) ?_ ?_
       rotate_left
       ·intro w'
        go_simp
        with_reducible rfl
       rotate_left
       ·simp only [Act.put, List.setIfInBounds_toArray, List.set_cons_zero, List.set_cons_succ, i64_w, i32_w]
        rfl
       refine last_ (i := 7) (N := none) #[true, true, true, true, true, true, true, true] rfl rfl (one_of HT_.out (by kernel_rfl)) (by decide) (fun K hK => ?_)
       have hs29 : w24.cell? ⟨gb300, 0, none⟩ = some (u301000) := (blk_cell BK300.out 0).trans rfl
       have hfs29 := blk_frozen BK300.out 0
       have hns29_0 := NB298_300.out
       have hns29_1 := NB299_300.out
       have hns29_3 := NB302_300.out
       have hms29_0 := NB300_298.out
       have hms29_1 := NB300_299.out
       have hms29_3 := NB300_302.out
       refine skip_ (w1 := ?_) (by rfl) rfl ?_ ?_
       rotate_left
       ·go_simp
        rfl
       refine hK.out _ _ ?_
       clear hK K
       refine done_ (done_of HT_.out (by kernel_rfl)) ?_
       try go_wp2
       go_roundg k1
       case measure => have := HK1.out; omega
       case rel => exact ⟨(wrap64 (x12_1 + 1)), (y315), (.slice Ao28 y315.length co28), oS, H', ⟨by have := HK1.out; omega⟩, ⟨by (with_reducible repeat (first | apply Kd.S_alloc | apply Kd.S_drewN | apply Kd.S_drew)); exact Kd.S_mono (Kd.S_far (p := ⟨gb300, 0, none⟩) (Kd.S_types HO317.out BK300.out (by decide)) (fun _ hk => hk.2) (.slice Ao28 y315.length co28)) (fun _ hk => trivial)⟩, ⟨by (with_reducible repeat (first | refine blk_drewN ?_ _ | refine blk_drew ?_ | refine blk_alloc ?_ _)); refine blk_far ?_ NB298_300.out _; (with_reducible repeat (first | refine blk_drewN ?_ _ | refine blk_drew ?_ | refine blk_alloc ?_ _)); exact BK298.out⟩, ⟨by (with_reducible repeat (first | refine blk_drewN ?_ _ | refine blk_drew ?_ | refine blk_alloc ?_ _)); refine blk_far ?_ NB299_300.out _; (with_reducible repeat (first | refine blk_drewN ?_ _ | refine blk_drew ?_ | refine blk_alloc ?_ _)); exact BK299.out⟩, ⟨by (with_reducible repeat (first | refine blk_drewN ?_ _ | refine blk_drew ?_ | refine blk_alloc ?_ _)); refine blk_put (cs := #[u301000, .int .i64 a0_1]) ?_ 0 _ rfl; (with_reducible repeat (first | refine blk_drewN ?_ _ | refine blk_drew ?_ | refine blk_alloc ?_ _)); exact BK300.out⟩, ⟨oB⟩⟩
      ·rw [if_neg c15] at H
       exact absurd H (by simp)
     ·cases H
    ·cases H
   ·simp only [Option.some.injEq, Prod.mk.injEq] at H
    obtain ⟨rfl, rfl⟩ := H
    have hnb30 := NB300_298.out
    have hnc30 := NB298_300.out
    have hnb31 := NB300_299.out
    have hnc31 := NB299_300.out
    obtain ⟨⟨_, _⟩, _, _⟩ := z2 BK300
    obtain ⟨Ao33, co33, eo33⟩ := Kd.S_slice HO_301000.out
    subst eo33
    have hnb34 := NB299_298.out
    have hnc34 := NB298_299.out
    obtain ⟨⟨_, _⟩, _, _⟩ := z2 BK299
    go_wp2
    refine bodyPost_ret (results_cell_row rfl _ _ gb299 30 #[.slice Ao33 x301000_1.length co33, .int .i64 a0_1] (0, 0) _ rfl (by (with_reducible repeat (first | refine blk_drewN ?_ _ | refine blk_drew ?_ | refine blk_alloc ?_ _)); refine blk_put (cs := #[.slice Ao33 x301000_1.length co33, .int .i64 0]) ?_ 1 _ rfl; (with_reducible repeat (first | refine blk_drewN ?_ _ | refine blk_drew ?_ | refine blk_alloc ?_ _)); refine blk_put (cs := #[.slice none 0 0, .int .i64 0]) ?_ 0 _ rfl; (with_reducible repeat (first | refine blk_drewN ?_ _ | refine blk_drew ?_ | refine blk_alloc ?_ _)); exact BK299.out) Try.underlying30 rfl (by kernel_rfl)) rfl ?_
    exact ⟨_, oE, by (with_reducible repeat (first | apply Kd.S_alloc | apply Kd.S_drewN | apply Kd.S_drew)); exact Kd.S_mono (Kd.S_far (p := ⟨gb299, 1, none⟩) (Kd.S_far (p := ⟨gb299, 0, none⟩) (Kd.S_types HO_301000.out BK299.out (by decide)) (fun _ hk => hk.2) (.slice Ao33 x301000_1.length co33)) (fun _ hk => hk.2) (.int .i64 a0_1)) (fun _ hk => trivial), oB⟩

-- NOT PRINTED: function 111 (slices_IndexFunc_Inode)

-- NOT PRINTED: function 108 (slices_DeleteFunc_Inode)

/-! ### impl_DropInode: function 55 -/
theorem sOpen {α : Type} {d : Kd α} {e : Nat} {W : World} {base : Nat} {ok : Nat → Prop} {g n cap : Nat} {xs : List α} (h : Kd.S d e W base ok (.slice (some ⟨g, 0, none⟩) n cap) xs) :
  ∃ (rows : List (List Value)) (f : Nat → Nat), rows.length = xs.length ∧ (Kd.raw d.sz).R e W base (fun k => k = g) (.slice (some ⟨g, 0, none⟩) n cap) rows ∧ ok g ∧
   ∀ (q : Nat) (x : α), xs[q]? = some x → d.M W base (fun k => (ok k ∧ k ≠ g) ∧ f k = q) x (rows.getD q []) := by
 obtain ⟨f, hok0, inner, ho, hr⟩ := h
 have hgo : some g = (Value.slice (some ⟨g, 0, none⟩) n cap).ownBlock := by simp [Value.ownBlock]
 have hlen : inner.length = xs.length * d.sz := by have := hr.1; rw [List.length_zipIdx] at this; exact this
 have hM : ∀ (q : Nat) (x : α), xs[q]? = some x → d.M W base (fun k => (ok k ∧ k ≠ g) ∧ f k = q) x ((inner.drop (q * d.sz)).take d.sz) := fun q x hx =>
  d.M_mono (fun k hk => ⟨⟨hk.1.1, fun he => hk.1.2 (by rw [he]; exact hgo)⟩, hk.2⟩) (hr.2 q (x, q) (Kd.zip_at hx))
 have hrow : ∀ q, q < xs.length → ((List.range xs.length).map fun j => (inner.drop (j * d.sz)).take d.sz)[q]? = some ((inner.drop (q * d.sz)).take d.sz) := fun q hq => by
  rw [List.getElem?_map, List.getElem?_range hq]; rfl
 refine ⟨(List.range xs.length).map fun j => (inner.drop (j * d.sz)).take d.sz, f, by rw [List.length_map, List.length_range], ⟨fun k hk => ?_, inner, ?_, ?_, fun j p hj => ?_⟩, hok0 g hgo.symm, fun q x hx => ?_⟩
 ·rw [← hgo] at hk; injection hk with hk; exact hk.symm
 ·rw [List.length_map, List.length_range]; rw [List.length_zipIdx] at ho; exact ho
 ·rw [List.length_map, List.length_range]; exact hlen
 ·rw [List.getElem?_map] at hj
  obtain ⟨j', hj', rfl⟩ := Option.map_eq_some_iff.1 hj
  obtain ⟨hl, he⟩ := List.getElem?_eq_some_iff.1 hj'
  rw [List.getElem_range] at he
  subst he
  rw [List.length_range] at hl
  have hm := d.K_of_M (hM j _ (List.getElem?_eq_getElem hl))
  exact ⟨rfl, d.K_len hm, d.K_one hm⟩
 ·have hq : q < xs.length := (List.getElem?_eq_some_iff.1 hx).1
  rw [List.getD_eq_getElem?_getD, hrow q hq]
  exact hM q x hx
theorem sShut {α : Type} {d : Kd α} {e : Nat} {W W1 : World} {base : Nat} {ok okr : Nat → Prop} {g m cap : Nat} {xs : List α} {rows rows' : List (List Value)} {f : Nat → Nat} {ids : List Nat} (z : α)
  (hraw : (Kd.raw d.sz).R e W1 base okr (.slice (some ⟨g, 0, none⟩) m cap) rows') (hnd : ids.Nodup) (hids : ∀ q ∈ ids, q < xs.length) (hrows : rows' = ids.map (fun q => rows.getD q []))
  (hM : ∀ (q : Nat) (x : α), xs[q]? = some x → d.M W base (fun k => (ok k ∧ k ≠ g) ∧ f k = q) x (rows.getD q []))
  (hmove : ∀ k, k ≠ g → k < W.heap.size → W1.heap[k]? = W.heap[k]?) (hg : ok g) : Kd.S d e W1 base ok (.slice (some ⟨g, 0, none⟩) m cap) (ids.map fun q => xs.getD q z) := by
 subst hrows
 obtain ⟨_, inner, ho, hr⟩ := hraw
 have hgo : some g = (Value.slice (some ⟨g, 0, none⟩) m cap).ownBlock := by simp [Value.ownBlock]
 refine ⟨fun k => ids.idxOf (f k), fun k hk => ?_, inner, ?_, ?_, fun j p hj => ?_⟩
 ·rw [← hgo] at hk; injection hk with hk; exact hk ▸ hg
 ·rw [List.length_zipIdx, List.length_map]; rw [List.length_map] at ho; exact ho
 ·rw [List.length_zipIdx, List.length_map]; have := hr.1; rw [List.length_map] at this; exact this
 ·rw [List.getElem?_zipIdx, Nat.zero_add] at hj
  obtain ⟨y, hy, rfl⟩ := Option.map_eq_some_iff.1 hj
  rw [List.getElem?_map] at hy
  obtain ⟨q, hq, rfl⟩ := Option.map_eq_some_iff.1 hy
  obtain ⟨hjl, hjq⟩ := List.getElem?_eq_some_iff.1 hq
  have hql := hids q (List.mem_of_getElem? hq)
  have hrw := (hr.2 j (rows.getD q []) (by rw [List.getElem?_map, hq]; rfl)).1
  show d.M W1 base _ (xs.getD q z) ((inner.drop (j * d.sz)).take d.sz)
  rw [show (inner.drop (j * d.sz)).take d.sz = rows.getD q [] from hrw]
  have hx : xs[q]? = some (xs.getD q z) := by rw [List.getD_eq_getElem?_getD, List.getElem?_eq_getElem hql]; rfl
  refine d.M_mono (fun k hk => ⟨⟨hk.1.1.1, fun he => hk.1.1.2 (by rw [← hgo] at he; injection he)⟩, ?_⟩) (d.M_move (w1 := W1) (fun k hk => hmove k hk.1.1.2 hk.2.2.1) (d.M_bound (hM q _ hx)))
  show ids.idxOf (f k) = j
  rw [hk.1.2, ← hjq]
  exact hnd.idxOf_getElem j hjl
def dropR (ino : Int) : List S45 → Nat → Int
 | [], _ => -1
 | x :: l, i => if x.f0 = ino then (i : Int) else dropR ino l (i + 1)
theorem dropOf1.calls (ino a b c : Int) (A3 A4 A5 : Option Addr) (n3 c3 n4 c4 n5 c5 : Nat) (B : Nat) (W : World) (hB : B < W.heap.size) (hc : W.cell? ⟨B, 0, none⟩ = some (.int .i64 ino)) :
  Calls Try.prog 109 #[.agg #[.int .i64 a, .int .i64 b, .int .i64 c, .slice A3 n3 c3, .slice A4 n4 c4, .slice A5 n5 c5], .pointer (some ⟨B, 0, none⟩)] W fun e w' => e = .returned (.bool (a == ino)) ∧ Below W.heap.size W w' := by
 have hne : B ≠ W.heap.size := by omega
 go_enter Try.func109, Try.ntmps109
 go_wp2
 all_goals (go_ret; exact ⟨by simp_all, (Below.refl _ W).alloc (Nat.le_refl _) _⟩)
theorem dropR_none (ino : Int) (l : List S45) (i : Nat) (h : ∀ x ∈ l, x.f0 ≠ ino) : dropR ino l i = -1 := by
 induction l generalizing i with
 | nil => rfl
 | cons x l ih => rw [dropR, if_neg (h x (List.mem_cons_self ..))]; exact ih (i + 1) (fun y hy => h y (List.mem_cons_of_mem _ hy))
theorem drd_at (l : List S45) (k : Nat) (h : k < l.length) : rd_T45 l (k : Int) = l[k] := by
 simp [rd_T45, List.getD_eq_getElem?_getD, List.getElem?_eq_getElem h]
theorem dropR_hit (ino : Int) (l : List S45) (k j : Nat) (h : k < l.length) (hit : (rd_T45 l (k : Int)).f0 = ino) : dropR ino (l.drop k) j = (j : Int) := by
 rw [List.drop_eq_getElem_cons h, dropR, if_pos (by rw [← drd_at l k h]; exact hit)]
theorem dropR_miss (ino : Int) (l : List S45) (k j : Nat) (h : k < l.length) (hit : (rd_T45 l (k : Int)).f0 ≠ ino) : dropR ino (l.drop k) j = dropR ino (l.drop (k + 1)) (j + 1) := by
 rw [List.drop_eq_getElem_cons h, dropR, if_neg (by rw [← drd_at l k h]; exact hit)]
set_option maxHeartbeats 400000 in
set_option maxRecDepth 100000 in
theorem dropOf2.calls (ino : Int) (A0 : Option Addr) (c0 : Nat) (l : List S45) (B : Nat) (w : World) (hr : k45.C w A0 l.length l) (hB : B < w.heap.size) (hc : w.cell? ⟨B, 0, none⟩ = some (.int .i64 ino)) (hl : l.length ≤ 9223372036854775807) :
  Calls Try.prog 111 #[.slice A0 l.length c0, .func (.func 109) #[] #[.pointer (some ⟨B, 0, none⟩)]] w fun e w' => e = .returned (.int .i64 (dropR ino l 0)) ∧ Below w.heap.size w w' := by
 go_enter Try.func111, Try.ntmps111
 go_wp2
 go_loopg [5, 8] l.length (fun gg _ s8 wr => ∃ kk : Nat, kk ≤ l.length ∧ l.length - kk ≤ gg ∧ s8 = .int .i64 kk ∧ Aside0 (Below w.heap.size w wr) ∧ Aside0 (dropR ino l 0 = dropR ino (l.drop kk) kk))
 case atStart => exact ⟨0, Nat.zero_le _, by omega, rfl, ⟨Below.refl _ w⟩, ⟨rfl⟩⟩
 case round =>
  obtain ⟨kk, hkk, hg, rfl, BW, A⟩ := hrel
  by_cases hlt : kk < l.length
  ·have hltz : (kk : Int) < (l.length : Int) := by omega
   obtain ⟨ad, A3, c3, A4, c4, A5, c5, e0, h0, h1, h2, h3, h4, h5, _⟩ := at_T45 (Kd.C_below hr BW.out) (kk : Int) (by omega) hltz
   cases e0
   rw [Int.toNat_natCast] at h0 h1 h2 h3 h4 h5
   have hBw : B < wr.heap.size := Nat.lt_of_lt_of_le hB BW.out.size
   have hcw : wr.cell? ⟨B, 0, none⟩ = some (.int .i64 ino) := (BW.out.cell (p := ⟨B, 0, none⟩) hB).trans hc
   by_cases hit : (rd_T45 l (kk : Int)).f0 = ino
   ·have hq : ((rd_T45 l (kk : Int)).f0 == ino) = true := by simpa using hit
    go_wp2_with (go_at_call 109; refine (dropOf1.calls ino _ _ _ _ _ _ _ _ _ _ _ _ B wr hBw hcw).mono ?_; rintro e w' ⟨rfl, hb'⟩)
    go_ret
    exact ⟨by rw [A.out, dropR_hit ino l kk kk hlt hit]; rfl, below_then BW.out BW.out.size hb'⟩
   ·have hq : ((rd_T45 l (kk : Int)).f0 == ino) = false := by simpa using hit
    go_wp2_with (go_at_call 109; refine (dropOf1.calls ino _ _ _ _ _ _ _ _ _ _ _ _ B wr hBw hcw).mono ?_; rintro e w' ⟨rfl, hb'⟩)
    go_roundg (l.length - (kk + 1))
    case measure => omega
    case rel => exact ⟨kk + 1, by omega, by omega, by go_num, ⟨below_then BW.out BW.out.size hb'⟩, ⟨by rw [A.out, dropR_miss ino l kk kk hlt hit]⟩⟩
  ·have hltz : ¬ (kk : Int) < (l.length : Int) := by omega
   obtain rfl : kk = l.length := by omega
   go_wp2
   go_ret
   exact ⟨by rw [A.out, List.drop_length]; rfl, BW.out⟩
def keepQ (ino : Int) (l : List S45) (q : Nat) : Bool := !decide ((rd_T45 l (q : Int)).f0 = ino)
def dropL (ino : Int) (l : List S45) : List S45 := l.filter fun x => !decide (x.f0 = ino)
theorem range_getD {α : Type} (l : List α) (z : α) (i : Nat) (h : i ≤ l.length) : (List.range i).map (fun q => l.getD q z) = l.take i := by
 apply List.ext_getElem?
 intro j
 rw [List.getElem?_map, List.getElem?_take]
 by_cases hj : j < i
 ·rw [List.getElem?_range hj, if_pos hj, List.getElem?_eq_getElem (by omega)]
  simp [List.getD_eq_getElem?_getD, List.getElem?_eq_getElem (show j < l.length by omega)]
 ·rw [if_neg hj, List.getElem?_eq_none (by simpa using hj)]; rfl
theorem dropL_ids (ino : Int) (l : List S45) : ((List.range l.length).filter (keepQ ino l)).map (fun q => l.getD q z45) = dropL ino l := by
 have h := range_getD l z45 l.length (Nat.le_refl _)
 rw [List.take_length] at h
 unfold dropL
 conv => rhs; rw [← h]
 rw [List.filter_map]
 rfl
theorem dropR_spec (ino : Int) (l : List S45) : ∀ j : Nat, (dropR ino l j = -1 ∧ ∀ x ∈ l, x.f0 ≠ ino) ∨ ∃ i : Nat, dropR ino l j = ((j + i : Nat) : Int) ∧ ∃ h : i < l.length, l[i].f0 = ino ∧ ∀ (q : Nat) (hq : q < i), l[q].f0 ≠ ino := by
 induction l with
 | nil => intro j; exact .inl ⟨rfl, by simp⟩
 | cons x l ih =>
  intro j
  rw [dropR]
  by_cases c : x.f0 = ino
  ·rw [if_pos c]
   exact .inr ⟨0, by simp, by simp, c, fun q hq => by omega⟩
  ·rw [if_neg c]
   rcases ih (j + 1) with ⟨h1, h2⟩ | ⟨i, h1, h2, h3, h4⟩
   ·left
    refine ⟨h1, fun y hy => ?_⟩
    rcases List.mem_cons.1 hy with rfl | hy
    ·exact c
    ·exact h2 y hy
   ·right
    refine ⟨i + 1, by rw [h1]; congr 1; omega, by simpa using h2, by simpa using h3, fun q hq => ?_⟩
    cases q with
    | zero => exact c
    | succ q => exact h4 q (by omega)
theorem keepQ_at (ino : Int) (l : List S45) (q : Nat) (h : q < l.length) : keepQ ino l q = !decide (l[q].f0 = ino) := by
 unfold keepQ; rw [drd_at l q h]
theorem ids_start (ino : Int) (l : List S45) (i : Nat) (h : i < l.length) (h1 : l[i].f0 = ino) (h2 : ∀ (q : Nat) (hq : q < i), l[q].f0 ≠ ino) : (List.range (i + 1)).filter (keepQ ino l) = List.range i := by
 rw [List.range_succ, List.filter_append, List.filter_cons_of_neg (by rw [keepQ_at ino l i h]; simp [h1]), List.filter_nil, List.append_nil]
 exact List.filter_eq_self.2 (fun q hq => by
  have hq := List.mem_range.1 hq
  rw [keepQ_at ino l q (by omega)]
  simpa using h2 q hq)
theorem ids_step (ino : Int) (l : List S45) (j : Nat) : (List.range (j + 1)).filter (keepQ ino l) = (List.range j).filter (keepQ ino l) ++ (if keepQ ino l j = true then [j] else []) := by
 rw [List.range_succ, List.filter_append]
 congr 1
 by_cases c : keepQ ino l j = true
 ·rw [if_pos c, List.filter_cons_of_pos c, List.filter_nil]
 ·rw [if_neg c, List.filter_cons_of_neg c, List.filter_nil]
theorem dropL_all (ino : Int) (l : List S45) (h : ∀ x ∈ l, x.f0 ≠ ino) : dropL ino l = l := List.filter_eq_self.2 (fun x hx => by simpa using h x hx)
section
variable {P : Program} {ops : Array Oper} {rest : List Oper} {o : Oper} {a : Act} {Q : Exit → Act → World → Prop}
theorem builtin_event {W w1 : World} (hgd : o.guard = none) {b : Builtin} {xs : Array Operand} {ts : Array TypeId} (_ho : o.op = .call { callee := .builtin b, args := xs, argTypes := ts }) (hN : o.dst = none) {v : Value}
  (hrun : (execOp a.eval o).run P W = .ok (.value v) w1) (h : ∀ w', w' = w1 → wpList P ops Q rest a w') : wpList P ops Q (o :: rest) a W := by
 refine wpList_plain hgd fun K hK => ?_
 unfold Oper.wp
 rw [hrun]
 show K (a.put o.dst v) w1
 rw [hN]
 exact hK _ _ (h _ rfl)
end
theorem zeroCells_one {z : Array Value} (h : ∀ v ∈ z.toList, v.oneCell' = true) (n : Nat) : ∀ v ∈ (Builtin.zeroCells z n).toList, v.oneCell' = true := by
 intro v hv
 unfold Builtin.zeroCells at hv
 simp only [Array.toList_map, List.mem_map, Array.toList_range, List.mem_range] at hv
 obtain ⟨i, hi, rfl⟩ := hv
 have hz : 0 < z.size := by
  rcases Nat.eq_zero_or_pos z.size with h0 | h0
  ·rw [h0] at hi; simp at hi
  ·exact h0
 have hlt := Nat.mod_lt i hz
 rw [getElem!_pos z (i % z.size) hlt]
 exact h _ (Array.getElem_mem_toList hlt)
theorem run_clear {P : Program} {w w1 : World} {t ty elem : TypeId} {z : Value} {a : Addr} {n c : Nat} (hu : P.underlying t = some (.slice elem)) (hz : (zeroValue elem).run P w = .ok z w) (hn : n ≠ 0) (hst : (storeCells a (Builtin.zeroCells z.cells n).toList).run P w = .ok () w1) :
  (Builtin.clear_ #[t] ty #[.slice (some a) n c]).run P w = .ok (.tuple #[]) w1 := by
 cases n with
 | zero => exact absurd rfl hn
 | succ n => simp [Builtin.clear_, run_underlying hu, hz, hst, Result.andThen]
/-- A row of raw cells, of which all from i on are written anew: what is ahead of i. -/
theorem raw_clear {e sz : Nat} {w : World} {P : Program} {base : Nat} {ok : Nat → Prop} {g n c i : Nat} {rows : List (List Value)} (h : (Kd.raw sz).R e w base ok (.slice (some ⟨g, 0, none⟩) n c) rows) (hi : i ≤ rows.length) {zs : List Value} (hz : zs.length = (n - i) * sz) (h1 : ∀ v ∈ zs, v.oneCell' = true) :
  ∃ w1, (storeCells ⟨g, i * sz, none⟩ zs).run P w = .ok () w1 ∧ (Kd.raw sz).R e w1 base ok (.slice (some ⟨g, 0, none⟩) i c) (rows.take i) ∧ w.grownBy w1 (some g) := by
 have hT := Kd.R_take h hi
 obtain ⟨hn, hnc, _⟩ := Kd.R_reads' h
 obtain ⟨h0, inner, ho, hr⟩ := h
 obtain ⟨ho1, ho2⟩ := ho
 rcases ho2 with ⟨hv, _⟩ | ⟨g', cap', cur, hv, hb, hh, hnc', hcm, hcs, ht⟩
 ·cases hv
 injection hv with ha _ hc
 injection ha with ha
 injection ha with hg
 subst hg; subst hc
 have hle : i * sz ≤ n * sz := Nat.mul_le_mul_right _ (by omega)
 have hfit : i * sz + zs.length ≤ cur.size := by
  have h2 : n * sz ≤ c * sz := Nat.mul_le_mul_right _ hnc
  have h3 : (n - i) * sz = n * sz - i * sz := Nat.sub_mul _ _ _
  have h4 : cur.size = c * sz := hcs
  omega
 obtain ⟨cur', h3, h4, h5⟩ := setCells_row zs (i * sz) w cur hh hfit
 obtain ⟨s1, s2, s3, s4⟩ := setCells_same g zs (i * sz) w
 have hfar : ∀ k, k ≠ g → (w.setCells g (i * sz) zs).heap[k]? = w.heap[k]? := fun k hk => setCells_far zs _ k hk
 refine ⟨w.setCells g (i * sz) zs, ?_, ?_, ⟨s1, s2, s3, by rw [s4]; exact Nat.le_refl _, fun k _ hk => hfar k (fun he => hk (by rw [he]))⟩⟩
 ·have := run_storeCells_cells (P := P) g (i * sz) zs 0 w (fun j hj => by rw [cell_of_row w g _ cur e (0, 0) hh, Array.getElem?_eq_getElem (by omega)]; rfl) (fun j _ => blk_frozen hh _) h1
  simpa using this
 ·obtain ⟨k0, inner2, ho2, hr2⟩ := hT
  obtain ⟨p1, p2⟩ := ho2
  rcases p2 with ⟨hv, _⟩ | ⟨g', cap', cur2, hv, hb2, hh2, hn2, hcm2, hcs2, ht2⟩
  ·cases hv
  injection hv with ha _ hc
  injection ha with ha
  injection ha with hg
  subst hg; subst hc
  rw [hh] at hh2
  injection hh2 with hh2
  injection hh2 with hh2
  subst hh2
  refine ⟨k0, inner2, ⟨p1, .inr ⟨g, c, cur', by rw [List.length_take, Nat.min_eq_left hi], hb, h3, hn2, hcm, by rw [h4]; exact hcs, ?_⟩⟩, ?_⟩
  ·rw [← ht2, h5]
   have hil : (rows.take i).length * (Kd.raw sz).sz = i * sz := by rw [List.length_take, Nat.min_eq_left hi]; rfl
   rw [hil, List.append_assoc, List.take_append_of_le_length (by rw [List.length_take, Array.length_toList]; omega), List.take_take, Nat.min_self]
  ·exact ⟨hr2.1, fun j p hj => hr2.2 j p hj⟩
def zInode : Value := .agg #[.int .i64 0, .int .i64 0, .int .i64 0, .slice none 0 0, .slice none 0 0, .slice none 0 0]
theorem zInode_run (w : World) : (zeroValue 45).run Try.prog w = .ok zInode w := by kernel_rfl
theorem raw_whole {w : World} {base sz : Nat} {ok : Nat → Prop} {c' seg : List Value} (hc : c'.length = sz) (hs : seg.length = sz) (h1 : ∀ v ∈ seg, v.oneCell' = true) : (Kd.raw sz).M w base ok seg (c'.take 0 ++ seg ++ c'.drop (0 + seg.length)) := by
 have e : c'.take 0 ++ seg ++ c'.drop (0 + seg.length) = seg := by rw [Nat.zero_add, hs, ← hc, List.drop_length]; simp
 exact ⟨e, by rw [e]; exact hs, by rw [e]; exact h1⟩
set_option maxHeartbeats 2000000 in
set_option maxRecDepth 100000 in
theorem deleteFunc.calls (ino : Int) (A0 : Option Addr) (c0 : Nat) (l : List S45) (B : Nat) (P0 : Nat → Prop) (w0 w : World) (hB : Below w0.heap.size w0 w) (hS : Kd.S k45 45 w w0.heap.size P0 (.slice A0 l.length c0) l) (hBl : B < w.heap.size) (hc : w.cell? ⟨B, 0, none⟩ = some (.int .i64 ino)) (hne : ¬ P0 B) (hl : l.length ≤ 9223372036854775807) :
  Calls Try.prog 108 #[.slice A0 l.length c0, .func (.func 109) #[] #[.pointer (some ⟨B, 0, none⟩)]] w fun e w' => e = .returned (.slice A0 (dropL ino l).length c0) ∧ Kd.S k45 45 w' w0.heap.size P0 (.slice A0 (dropL ino l).length c0) (dropL ino l) ∧ Below w0.heap.size w0 w' ∧ Kept w w' P0 := by
 have hr := (Kd.S_reads' hS).2.2
 have HS := Aside0.mk hS
 have HB := Aside0.mk hB
 have HW := Aside0.mk hB.size
 have HN := Aside0.mk hne
 have hcall := dropOf2.calls ino A0 c0 l B w hr hBl hc hl
 clear hS hB hne hr
 rcases dropR_spec ino l 0 with ⟨hp, hall⟩ | ⟨i0, hp, hi0, hhit, hbef⟩
 ·rw [hp] at hcall
  have HC := Aside0.mk hcall
  have HD := Aside0.mk (dropL_all ino l hall)
  clear hcall hc hall hp
  go_enter Try.func108, Try.ntmps108
  go_wp2_with (go_at_call 111; refine HC.out.mono ?_; rintro e w1 ⟨rfl, hb⟩)
  go_ret
  rw [HD.out]
  exact ⟨rfl, Kd.S_below HS.out hb, below_then HB.out HW.out hb, Kept.of_below hb _⟩
 ·rw [Nat.zero_add] at hp
  rw [hp] at hcall
  have HC := Aside0.mk hcall
  have hids := ids_start ino l i0 hi0 hhit hbef
  obtain ⟨g, cap, ev, gb, _, _⟩ := Kd.S_form HS.out (by omega)
  injection ev with ea en ec
  subst ea
  clear en
  subst ec
  obtain ⟨rows, f, hrl, hraw, hPg, hM⟩ := sOpen HS.out
  have HM := Aside0.mk hM
  have HP := Aside0.mk hPg
  have hBg : B ≠ g := fun he => HN.out (he ▸ hPg)
  have HR := Aside0.mk hraw
  have HI := Aside0.mk (⟨by rw [hids, List.length_range]; omega, by rw [hids, List.length_range, ← range_getD rows [] i0 (by omega)], hrl⟩ : ((List.range (i0 + 1)).filter (keepQ ino l)).length < i0 + 1 ∧ rows.take ((List.range (i0 + 1)).filter (keepQ ino l)).length = ((List.range (i0 + 1)).filter (keepQ ino l)).map (fun q => rows.getD q []) ∧ rows.length = l.length)
  have hil : ((List.range (i0 + 1)).filter (keepQ ino l)).length = i0 := by rw [hids, List.length_range]
  have HG := Aside0.mk gb
  have HCC := Aside0.mk hc
  clear hcall hc hhit hbef hp hids hraw hM hPg gb
  go_enter Try.func108, Try.ntmps108
  go_wp2_with (go_at_call 111; refine HC.out.mono ?_; rintro e w1 ⟨rfl, hb⟩)
  replace HR := Aside0.mk (Kd.R_below HR.out hb)
  have HK := Aside0.mk (Kept.of_below hb (fun k => k = g))
  replace HB := Aside0.mk (below_then HB.out HW.out hb)
  clear hb HC
  go_loopg [5, 6] l.length (fun gg s5 s6 wr => ∃ (jj : Nat) (rws : List (List Value)), jj ≤ l.length ∧ l.length - jj ≤ gg ∧ s5 = .int .i64 ((List.range jj).filter (keepQ ino l)).length ∧ s6 = .int .i64 jj ∧ Aside0 (((List.range jj).filter (keepQ ino l)).length < jj ∧ rws.take ((List.range jj).filter (keepQ ino l)).length = ((List.range jj).filter (keepQ ino l)).map (fun q => rows.getD q []) ∧ rws.length = l.length) ∧ Aside0 (rws.drop jj = rows.drop jj) ∧ Aside0 ((Kd.raw k45.sz).R 45 wr w0.heap.size (fun k => k = g) (.slice (some ⟨g, 0, none⟩) l.length c0) rws) ∧ Aside0 (Below w0.heap.size w0 wr) ∧ Aside0 (Kept w wr (fun k => k = g)))
  case atStart => exact ⟨i0 + 1, rows, by omega, by omega, by rw [hil], by go_num, HI, ⟨rfl⟩, HR, HB, HK⟩
  case round =>
   clear HR HB HK HI hil
   obtain ⟨jj, rws, hjj, hgg, rfl, rfl, HI, HD, HR, HB, HK⟩ := hrel
   by_cases hlt : jj < l.length
   ·have hltz : (jj : Int) < (l.length : Int) := by omega
    have hnn : (0 : Int) ≤ (jj : Int) := by omega
    have hM := HM.out jj l[jj] (List.getElem?_eq_getElem hlt)
    obtain ⟨v3, v4, v5, hcs, g3, g4, g5⟩ := k45_openM hM
    obtain ⟨A3, b3, rfl⟩ := Kd.R_slice g3
    obtain ⟨A4, b4, rfl⟩ := Kd.R_slice g4
    obtain ⟨A5, b5, rfl⟩ := Kd.R_slice g5
    clear hM g3 g4 g5
    have hjr : rws.getD jj [] = rows.getD jj [] := by
     have := congrArg (fun L => L.getD 0 []) HD.out
     simpa [List.getD_eq_getElem?_getD, List.getElem?_drop] using this
    obtain ⟨c, hcl, hcm, hcc, hcf⟩ := Kd.R_elem HR.out [] (jj : Int) hnn hltz
    have hce : c = [.int .i64 l[jj].f0, .int .i64 l[jj].f1, .int .i64 l[jj].f2, .slice A3 l[jj].f3.length b3, .slice A4 l[jj].f4.length b4, .slice A5 l[jj].f5.length b5] := by
     have := hcm.1
     rw [Int.toNat_natCast, hjr, hcs] at this
     exact this
    have hone := hcm.2.2
    subst hce
    have c0_ : wr.cell? ⟨g, jj * 6, none⟩ = some (.int .i64 l[jj].f0) := hcc 0 _ rfl
    have c1_ : wr.cell? ⟨g, jj * 6 + 1, none⟩ = some (.int .i64 l[jj].f1) := hcc 1 _ rfl
    have c2_ : wr.cell? ⟨g, jj * 6 + 2, none⟩ = some (.int .i64 l[jj].f2) := hcc 2 _ rfl
    have c3_ : wr.cell? ⟨g, jj * 6 + 3, none⟩ = some (.slice A3 l[jj].f3.length b3) := hcc 3 _ rfl
    have c4_ : wr.cell? ⟨g, jj * 6 + 4, none⟩ = some (.slice A4 l[jj].f4.length b4) := hcc 4 _ rfl
    have c5_ : wr.cell? ⟨g, jj * 6 + 5, none⟩ = some (.slice A5 l[jj].f5.length b5) := hcc 5 _ rfl
    have hgs := Kd.R_lt HR.out g (by simp [Value.ownBlock])
    have hBw : B < wr.heap.size := Nat.lt_of_lt_of_le hBl HK.out.1
    have hcw : ∀ o, (wr.alloc o).cell? ⟨B, 0, none⟩ = some (.int .i64 ino) := fun o => cB (W := wr.alloc o) ⟨below_alloc (Below.refl _ _) o⟩ (cell_kept HCC.out HK.out hBg)
    have HJ := Aside0.mk hjr
    have HCS := Aside0.mk hcs
    have HONE := Aside0.mk hone
    clear hcm hcc hcf hcl hone hjr hcs
    have hst := ids_step ino l jj
    have hIx := HI.out
    obtain ⟨hmj, htk, hrwl⟩ := hIx
    by_cases hk : l[jj].f0 = ino
    ·have hq : (l[jj].f0 == ino) = true := by simpa using hk
     rw [if_neg (by rw [keepQ_at ino l jj hlt]; simp [hk]), List.append_nil] at hst
     have HST := Aside0.mk hst
     clear hk hst htk hmj hrwl
     go_wp2_with (go_at_call 109; refine (dropOf1.calls ino _ _ _ _ _ _ _ _ _ _ _ _ B _ (by simp only [World.size_alloc]; omega) (hcw _)).mono ?_; rintro e w2 ⟨rfl, hb⟩; rw [hq])
     go_roundg (l.length - (jj + 1))
     case measure => omega
     case rel =>
      have hb2 := bold hb
      refine ⟨jj + 1, rws, by omega, by omega, by rw [HST.out], by go_num, ⟨?_⟩, ⟨?_⟩, ⟨Kd.R_below HR.out hb2⟩, ⟨below_then HB.out HB.out.size hb2⟩, ⟨Kept.below HK.out hb2⟩⟩
      ·rw [HST.out]; have := HI.out; exact ⟨by omega, this.2⟩
      ·have := congrArg (fun L => L.drop 1) HD.out
       simpa [List.drop_drop, Nat.add_comm] using this
    ·have hq : (l[jj].f0 == ino) = false := by simpa using hk
     rw [if_pos (by rw [keepQ_at ino l jj hlt]; simp [hk])] at hst
     have HST := Aside0.mk hst
     generalize hm : ((List.range jj).filter (keepQ ino l)).length = m at hmj htk ⊢
     have HTK := Aside0.mk htk
     have hml : (m : Int) < (l.length : Int) := by omega
     have hm0 : (0 : Int) ≤ (m : Int) := by omega
     clear hk hst htk
     go_wp2_with (first
      | (go_at_call 109; refine (dropOf1.calls ino _ _ _ _ _ _ _ _ _ _ _ _ B _ (by simp only [World.size_alloc]; omega) (hcw _)).mono ?_; rintro e w2 ⟨rfl, hb⟩; rw [hq]; have KV := bnew hb; replace hb := bold hb; have zv := z6 KV; have HR2 := Aside0.mk (Kd.R_below HR.out hb); have HB2 := Aside0.mk (below_then HB.out HB.out.size hb); have HK2 := Aside0.mk (Kept.below HK.out hb))
      | ((with_reducible refine gate_store (t := 45) (p := 33) rfl ?_); obtain ⟨c', hcl', hcm', hcc', _⟩ := Kd.R_elem HR2.out [] (m : Int) hm0 hml; refine Kd.R_store (Kd.raw k45.sz) w0.heap.size rfl rfl 45 (.tmp 33) (.tmp 32) rfl 45 (m : Int) 0 rws [.int .i64 l[jj].f0, .int .i64 l[jj].f1, .int .i64 l[jj].f2, .slice A3 l[jj].f3.length b3, .slice A4 l[jj].f4.length b4, .slice A5 l[jj].f5.length b5] (.agg [.int .i64 l[jj].f0, .int .i64 l[jj].f1, .int .i64 l[jj].f2, .slice A3 l[jj].f3.length b3, .slice A4 l[jj].f4.length b4, .slice A5 l[jj].f5.length b5].toArray) [.int .i64 l[jj].f0, .int .i64 l[jj].f1, .int .i64 l[jj].f2, .slice A3 l[jj].f3.length b3, .slice A4 l[jj].f4.length b4, .slice A5 l[jj].f5.length b5] c' (fun k => k = g) (fun _ => False) rfl (by simp; rfl) rfl rfl (by kernel_rfl) HONE.out HR2.out hm0 hml hcl' hcc' (Nat.le_refl _) ?_ (fun _ hk => hk.elim) HB2.out ?_; (first | (exact raw_whole hcl' rfl HONE.out) | skip); intro w3 hr3 hb3 hg3))
     go_roundg (l.length - (jj + 1))
     case measure => omega
     case rel =>
      rw [Int.toNat_natCast] at hr3
      have hT := HTK.out
      have hlen : ((List.range (jj + 1)).filter (keepQ ino l)).length = m + 1 := by rw [HST.out, List.length_append, hm]; rfl
      refine ⟨jj + 1, rws.set m [.int .i64 l[jj].f0, .int .i64 l[jj].f1, .int .i64 l[jj].f2, .slice A3 l[jj].f3.length b3, .slice A4 l[jj].f4.length b4, .slice A5 l[jj].f5.length b5], by omega, by omega, by rw [hlen]; go_num, by go_num, ⟨?_⟩, ⟨?_⟩, ⟨hr3⟩, ⟨hb3⟩, ⟨Kept.of_grown hg3 HK2.out (fun k e => .inl (by injection e with e; exact e.symm))⟩⟩
      ·refine ⟨by omega, ?_, by rw [List.length_set]; exact hrwl⟩
       rw [hlen, HST.out, List.map_append, List.take_succ_eq_append_getElem (by rw [List.length_set]; omega), List.getElem_set_self, List.take_set_of_le (Nat.le_refl m), hT, List.map_cons, List.map_nil, HCS.out]
      ·rw [List.drop_set_of_lt (by omega)]
       have := congrArg (fun L => L.drop 1) HD.out
       simpa [List.drop_drop, Nat.add_comm] using this
   ·have hltz : ¬ (jj : Int) < (l.length : Int) := by omega
    obtain rfl : jj = l.length := by omega
    obtain ⟨hmj, htk, hrwl⟩ := HI.out
    have hcap := (Kd.R_reads' HR.out).2.1
    have hids := dropL_ids ino l
    have hnd : ((List.range l.length).filter (keepQ ino l)).Nodup := (List.nodup_range).sublist List.filter_sublist
    have hin : ∀ q ∈ (List.range l.length).filter (keepQ ino l), q < l.length := fun q hq => List.mem_range.1 (List.mem_filter.1 hq).1
    have hdl : (dropL ino l).length = ((List.range l.length).filter (keepQ ino l)).length := by rw [← hids, List.length_map]
    generalize hm : ((List.range l.length).filter (keepQ ino l)).length = m at hmj htk hdl ⊢
    have HIDS := Aside0.mk hids
    have HTK := Aside0.mk htk
    have HND := Aside0.mk hnd
    have HIN := Aside0.mk hin
    have HDL := Aside0.mk hdl
    have hml : (m : Int) < (l.length : Int) := by omega
    have hm0 : (0 : Int) ≤ (m : Int) := by omega
    clear hids htk hnd hin hdl
    obtain ⟨w1, hst, hr1, hg1⟩ := raw_clear (P := Try.prog) (zs := (Builtin.zeroCells zInode.cells (l.length - m)).toList) (i := m) HR.out (by omega) (by rw [Array.length_toList, size_zeroCells]; rfl) (zeroCells_one (by decide) _)
    have hrun := fun ty => run_clear (P := Try.prog) (ty := ty) (c := c0 - m) (show Try.prog.underlying 28 = some (.slice 45) by kernel_rfl) (zInode_run wr) (show l.length - m ≠ 0 by omega) (show (storeCells ⟨g, m * 6, none⟩ (Builtin.zeroCells zInode.cells (l.length - m)).toList).run Try.prog wr = .ok () w1 from hst)
    have hk1 : Kept w w1 (fun k => k = g) := Kept.of_grown hg1 HK.out (fun k e => .inl (by injection e with e; exact e.symm))
    have hb1 : Below w0.heap.size w0 w1 := HB.out.grown hg1 HB.out.size (fun k e => by injection e with e; rw [← e]; exact HG.out)
    have hs1 := sShut z45 hr1 HND.out HIN.out HTK.out HM.out (fun k hk hlt => hk1.2 k hlt hk) HP.out
    rw [HIDS.out] at hs1
    have HS1 := Aside0.mk hs1
    clear hs1 hst
    go_wp2_with ((with_reducible refine gate_builtin (b := .clear) rfl ?_); refine builtin_event (w1 := w1) rfl rfl rfl (v := .tuple #[]) ?hr ?_; (case hr => go_simp; rw [hrun 0]; rfl); (intro w2 hw; subst hw))
    go_ret
    rw [HDL.out]
    exact ⟨rfl, HS1.out, hb1, hk1.mono (fun k hk => by rw [hk]; exact HP.out)⟩
def impl_DropInode.f (k : Nat) (l0_0 : List S45) (a0_1 a1 : Int) : Option (List S45 × Int) := (impl_copyTab.f k l0_0 a0_1).bind fun t => if (t.1.length : Int) ≤ 9223372036854775807 then some (dropL a1 t.1, t.2) else none
set_option maxHeartbeats 1000000 in
set_option maxRecDepth 100000 in
theorem impl_DropInode.calls (k : Nat) (A0_0 : Option Addr) (c0_0 : Nat) (l0_0 : List S45) (a0_1 a1 : Int) (r1 : List S45) (r2 : Int) (w : World) (hr0_0 : Kd.C k45 w A0_0 l0_0.length l0_0) (hc0_0 : l0_0.length ≤ c0_0) (h : impl_DropInode.f k l0_0 a0_1 a1 = some (r1, r2)) :
  Calls Try.prog 55 #[.agg #[.slice A0_0 l0_0.length c0_0, .int .i64 a0_1], .int .i64 a1] w fun e w' => ∃ v0_ : Value, e = .returned (.agg #[v0_, .int .i64 r2]) ∧ Kd.S k45 45 w' w.heap.size (fun _ => True) v0_ r1 ∧ Below w.heap.size w w' := by
 unfold impl_DropInode.f at h
 replace h := bA h
 obtain ⟨⟨t1, t2⟩, H1, h⟩ := h
 split at h
 case isFalse => cases h
 case isTrue hl =>
 simp only [Option.some.injEq, Prod.mk.injEq] at h
 obtain ⟨rfl, rfl⟩ := h
 have hl' : t1.length ≤ 9223372036854775807 := by dsimp only at hl; omega
 have HL := Aside0.mk hl'
 clear hl hl'
 have HR0 := Aside0.mk hr0_0
 have HC0 := Aside0.mk hc0_0
 clear hr0_0 hc0_0
 have HB := Aside0.mk (Below.refl w.heap.size w)
 go_enter Try.func55, Try.ntmps55
 go_wp2_with fail
 refine (impl_copyTab.calls k _ _ l0_0 a0_1 t1 t2 _ (kC HR0) HC0.out H1.out).mono ?_
 rintro e w2 ⟨v0, rfl, hs, hb⟩
 obtain ⟨A, c, rfl⟩ := Kd.S_slice hs
 have KT := Aside0.mk (blk_below (blk_alloc (blk_alloc (blk_new _ _) _) _) hb)
 have KI := Aside0.mk (blk_below (blk_alloc (blk_new _ _) _) hb)
 have KR := Aside0.mk (blk_below (blk_new _ _) hb)
 simp only [World.size_alloc] at KI KR
 have S1 := siv' hs (w.heap.size + 3) w.heap.size (by simp) (by simp only [World.size_alloc]; omega)
 have n1 : w.heap.size + 3 ≤ w2.heap.size := by have := hb.size; simpa using this
 replace HB := Aside0.mk (below_step (below_alloc (below_alloc (below_alloc (Below.refl _ _) _) _) _) hb)
 clear hs hb
 have zt := z2 KT
 have zi := z1 KI
 have zr := z2 KR
 have W0 := Aside0.mk (rfl : w.heap.size = w.heap.size)
 have KT3 := Aside0.mk (show ((w2.setCell ⟨w.heap.size, 0, none⟩ (.slice A t1.length c)).setCell ⟨w.heap.size, 1, none⟩ (.int .i64 t2)).heap[w.heap.size]? = some (.cells #[.slice A t1.length c, .int .i64 t2] 30 (0, 0)) by simpa using blk_set (blk_set KT.out 0 (.slice A t1.length c)) 1 (.int .i64 t2))
 have KI3 := Aside0.mk (show ((w2.setCell ⟨w.heap.size, 0, none⟩ (.slice A t1.length c)).setCell ⟨w.heap.size, 1, none⟩ (.int .i64 t2)).heap[w.heap.size + 1]? = some (.cells #[.int .i64 a1] 3 (0, 0)) by rw [Below.heap_setCell _ _ _ _ (by simp), Below.heap_setCell _ _ _ _ (by simp)]; exact KI.out)
 have KR3 := Aside0.mk (show ((w2.setCell ⟨w.heap.size, 0, none⟩ (.slice A t1.length c)).setCell ⟨w.heap.size, 1, none⟩ (.int .i64 t2)).heap[w.heap.size + 1 + 1]? = some (.cells #[.slice none 0 0, .int .i64 0] 30 (0, 0)) by rw [Below.heap_setCell _ _ _ _ (by simp; omega), Below.heap_setCell _ _ _ _ (by simp; omega)]; exact KR.out)
 have HB3 := Aside0.mk ((HB.out.setCell (p := ⟨w.heap.size, 0, none⟩) (Nat.le_refl _) (.slice A t1.length c)).setCell (p := ⟨w.heap.size, 1, none⟩) (Nat.le_refl _) (.int .i64 t2))
 have S3 := Aside0.mk (Kd.S_far (p := ⟨w.heap.size, 1, none⟩) (Kd.S_far (p := ⟨w.heap.size, 0, none⟩) S1.out (fun k hk => by have := hk.1; dsimp only; omega) (.slice A t1.length c)) (fun k hk => by have := hk.1; dsimp only; omega) (.int .i64 t2))
 go_wp2_with fail
 refine (deleteFunc.calls a1 A c t1 (w.heap.size + 1) (fun k => w.heap.size + 3 ≤ k ∧ k < w2.heap.size) w _ HB3.out S3.out (blk_lt KI3.out) (z1 KI3).1 (by omega) HL.out).mono ?_
 rintro e w4 ⟨rfl, hs, hb, hk⟩
 replace KT := bkept KT3 hk (fun h => by omega)
 replace KR := bkept KR3 hk (fun h => by omega)
 have S4 := Aside0.mk hs
 replace HB := Aside0.mk hb
 clear hs hb hk KT3 KI3 KR3 HB3 S3 S1 KI zi zt zr
 have zt := z2 KT
 have zr := z2 KR
 go_wp2_with fail
 try simp only [Exit.inBlock, Exit.then]
 refine bodyPost_ret (results_cell_row rfl _ _ (w.heap.size + 1 + 1) 30 #[.slice A (dropL a1 t1).length c, .int .i64 t2] (0, 0) _ rfl (by refine blk_put (cs := #[.slice A (dropL a1 t1).length c, .int .i64 0]) ?_ 1 _ rfl; refine blk_put (cs := #[.slice none 0 0, .int .i64 0]) ?_ 0 _ rfl; rw [Below.heap_setCell _ _ _ _ (by simp; omega)]; exact KR.out) Try.underlying30 rfl (by kernel_rfl)) rfl ?_
 refine ⟨_, rfl, ?_, ?_⟩
 ·exact Kd.S_mono (Kd.S_far (Kd.S_far (Kd.S_far S4.out (fun k hk => by have := hk.1; dsimp only; omega) _) (fun k hk => by have := hk.1; dsimp only; omega) _) (fun k hk => by have := hk.1; dsimp only; omega) _) (fun _ _ => trivial)
 ·exact ((HB.out.setCell (by dsimp only; omega) _).setCell (by dsimp only; omega) _).setCell (by dsimp only; omega) _
/-! ### laws_FnExactDropInode: function 13 -/
def laws_FnExactDropInode.T10 : Bool × List (List Nat × List Nat) := (true, [([], []), ([], []), ([1], [1]), ([0, 2, 2], [0, 2]), ([3], [3])])
def laws_FnExactDropInode.B10 : List Nat := [0, 0, 2, 7, 15]
theorem laws_FnExactDropInode.tab10 : rtab .any (opsOf Try.f13 10) = laws_FnExactDropInode.T10 := by kernel_rfl
theorem laws_FnExactDropInode.bits10 : waitsOk laws_FnExactDropInode.T10.2 laws_FnExactDropInode.B10 = true := by kernel_rfl
def laws_FnExactDropInode.f (k : Nat) (l0_0 : List S39) (a0_1 a1 : Int) : Option Bool :=
 (laws_szTab.f k l0_0 a0_1 1048576).bind fun R => if R < 0 then some true else
 (laws_toTab.f k l0_0 a0_1).bind fun t => (spec_DropInode.f k t.1 t.2 a1).bind fun p => (impl_DropInode.f k t.1 t.2 a1).bind fun s =>
 (laws_eqTab.f k s.1 s.2 p.1 p.2).bind fun e1 => (laws_eqTab.f k t.1 t.2 t.1 t.2).bind fun e2 => (laws_markInodeS.f k t.1 1).bind fun mt =>
 (laws_markInodeS.f k s.1 1).bind fun m => (laws_heldTab.f k m.2 s.2 1).bind fun q =>
 if e1 = true ∧ e2 = true ∧ ¬ mt.1 < 0 ∧ ¬ q < 0 ∧ q = m.1 ∧ m.2.length = s.1.length then some true else none
set_option maxHeartbeats 8000000 in
set_option maxRecDepth 100000 in
theorem laws_FnExactDropInode.calls (k : Nat) (A0_0 : Option Addr) (c0_0 : Nat) (l0_0 : List S39) (a0_1 a1 : Int) (r : Bool) (w : World) (hr0_0 : Kd.C k39 w A0_0 l0_0.length l0_0) (hc0_0 : l0_0.length ≤ c0_0) (h : laws_FnExactDropInode.f k l0_0 a0_1 a1 = some r) :
  Calls Try.prog 13 #[.agg #[.slice A0_0 l0_0.length c0_0, .int .i64 a0_1], .int .i64 a1] w fun e w' => e = .returned (.bool r) ∧ Below w.heap.size w w' := by
 have HR0_0 := Aside0.mk hr0_0
 have HC0_0 := Aside0.mk hc0_0
 clear hr0_0 hc0_0
 have HB := Aside0.mk (Below.refl w.heap.size w)
 unfold laws_FnExactDropInode.f at h
 replace h := bA h
 obtain ⟨R, H1, h⟩ := h
 split at h
 case isTrue hR =>
  have cR : decide (R < 0) = true := decide_eq_true hR
  obtain rfl := Option.some.inj h
  clear h hR
  go_enter Try.func13, Try.ntmps13
  go_wp2_with fail
  refine (laws_szTab.calls k _ _ l0_0 a0_1 1048576 R _ (kC HR0_0) HC0_0.out H1.out).mono ?_
  rintro e w1 ⟨rfl, hb⟩
  replace HB := Aside0.mk (below_step oB hb)
  go_wp2
  go_ret
  exact ⟨rfl, oB⟩
 case isFalse hR =>
 have cR : decide (R < 0) = false := decide_eq_false hR
 clear hR
 replace h := bA h
 obtain ⟨⟨tl, tn⟩, H2, h⟩ := h
 replace h := bA h
 obtain ⟨⟨pl, pn⟩, H3, h⟩ := h
 replace h := bA h
 obtain ⟨⟨sl, sn⟩, H4, h⟩ := h
 replace h := bA h
 obtain ⟨e1, H5, h⟩ := h
 replace h := bA h
 obtain ⟨e2, H6, h⟩ := h
 replace h := bA h
 obtain ⟨⟨mt, ml⟩, H7, h⟩ := h
 replace h := bA h
 obtain ⟨⟨mk, mg⟩, H8, h⟩ := h
 replace h := bA h
 obtain ⟨q, H9, h⟩ := h
 split at h
 case isFalse => cases h
 case isTrue hh =>
 try dsimp only at hh
 obtain ⟨rfl, rfl, hmt, hq, rfl, l4⟩ := hh
 obtain rfl := Option.some.inj h
 clear h
 have cm : decide (mt < 0) = false := decide_eq_false hmt
 have cq : decide (q < 0) = false := decide_eq_false hq
 clear hmt hq
 have L4 := Aside0.mk l4
 clear l4
 try dsimp only at H3 H4 H5 H6 H7 H8 H9 L4
 go_enter Try.func13, Try.ntmps13
 go_wp2_with fail
 refine (laws_szTab.calls k _ _ l0_0 a0_1 1048576 R _ (kC HR0_0) HC0_0.out H1.out).mono ?_
 rintro e w1 ⟨rfl, hb⟩
 have n1 : w.heap.size + 1 ≤ w1.heap.size := by have := hb.size; simpa using this
 have K_aT := bnew hb
 replace hb := bold hb
 replace HB := Aside0.mk (below_step oB hb)
 clear hb
 have Z_aT := z2 K_aT
 have Y_aT := zz2 K_aT
 go_wp2_with fail
 refine (laws_toTab.calls k _ _ l0_0 a0_1 tl tn _ (kC HR0_0) HC0_0.out H2.out).mono ?_
 rintro e w2 ⟨v_t0, rfl, h_t0, hb⟩
 obtain ⟨A_t0, c_t0, rfl⟩ := Kd.S_slice h_t0
 have S_t0 := siv' h_t0 (w1.heap.size) w.heap.size (by simp) (below_size oB)
 clear h_t0
 have n2 : w1.heap.size ≤ w2.heap.size := by have := hb.size; simpa using this
 replace K_aT := bstep K_aT hb
 replace HB := Aside0.mk (below_step oB hb)
 clear hb
 replace Z_aT := z2 K_aT
 replace Y_aT := zz2 K_aT
 go_wp2_with fail
 refine (spec_DropInode.calls k _ _ tl tn a1 pl pn _ (rS S_t0) (rl S_t0) H3.out).mono ?_
 rintro e w3 ⟨v_w0, rfl, h_w0, hb⟩
 obtain ⟨A_w0, c_w0, rfl⟩ := Kd.S_slice h_w0
 have S_w0 := siv' h_w0 (w2.heap.size) w.heap.size (by simp) (below_size oB)
 clear h_w0
 have n3 : w2.heap.size ≤ w3.heap.size := by have := hb.size; simpa using this
 replace K_aT := bstep K_aT hb
 replace S_t0 := sb S_t0 hb
 replace HB := Aside0.mk (below_step oB hb)
 clear hb
 replace Z_aT := z2 K_aT
 replace Y_aT := zz2 K_aT
 clear S_t0
 go_wp2_with fail
 refine (laws_toTab.calls k _ _ l0_0 a0_1 tl tn _ (kC HR0_0) HC0_0.out H2.out).mono ?_
 rintro e w4 ⟨v_x0, rfl, h_x0, hb⟩
 obtain ⟨A_x0, c_x0, rfl⟩ := Kd.S_slice h_x0
 have S_x0 := siv' h_x0 (w3.heap.size + 1) w.heap.size (by simp) (below_size oB)
 clear h_x0
 have n4 : w3.heap.size + 1 ≤ w4.heap.size := by have := hb.size; simpa using this
 have K_w0 := bnew hb
 replace hb := bold hb
 replace K_aT := bstep K_aT hb
 replace S_w0 := sb S_w0 hb
 replace HB := Aside0.mk (below_step oB hb)
 clear hb
 replace Z_aT := z2 K_aT
 replace Y_aT := zz2 K_aT
 have Z_w0 := z2 K_w0
 have Y_w0 := zz2 K_w0
 go_wp2_with fail
 refine (impl_DropInode.calls k _ _ tl tn a1 sl sn _ (rS S_x0) (rl S_x0) H4.out).mono ?_
 rintro e w5 ⟨v_g0, rfl, h_g0, hb⟩
 obtain ⟨A_g0, c_g0, rfl⟩ := Kd.S_slice h_g0
 have S_g0 := siv' h_g0 (w4.heap.size + 1) w.heap.size (by simp) (below_size oB)
 clear h_g0
 have n5 : w4.heap.size + 1 ≤ w5.heap.size := by have := hb.size; simpa using this
 have K_x0 := bnew hb
 replace hb := bold hb
 replace K_aT := bstep K_aT hb
 replace K_w0 := bstep K_w0 hb
 replace S_w0 := sb S_w0 hb
 replace S_x0 := sb S_x0 hb
 replace HB := Aside0.mk (below_step oB hb)
 clear hb
 replace Z_aT := z2 K_aT
 replace Y_aT := zz2 K_aT
 replace Z_w0 := z2 K_w0
 replace Y_w0 := zz2 K_w0
 have Z_x0 := z2 K_x0
 have Y_x0 := zz2 K_x0
 go_wp2_with fail
 refine (laws_eqTab.calls k _ _ sl sn _ _ pl pn true _ (rS S_g0) (rl S_g0) (rS S_w0) (rl S_w0) H5.out).mono ?_
 rintro e w6 ⟨rfl, hb⟩
 have n6 : w5.heap.size + 1 ≤ w6.heap.size := by have := hb.size; simpa using this
 have K_g0 := bnew hb
 replace hb := bold hb
 replace K_aT := bstep K_aT hb
 replace K_w0 := bstep K_w0 hb
 replace K_x0 := bstep K_x0 hb
 replace S_w0 := sb S_w0 hb
 replace S_x0 := sb S_x0 hb
 replace S_g0 := sb S_g0 hb
 replace HB := Aside0.mk (below_step oB hb)
 clear hb
 replace Z_aT := z2 K_aT
 replace Y_aT := zz2 K_aT
 replace Z_w0 := z2 K_w0
 replace Y_w0 := zz2 K_w0
 replace Z_x0 := z2 K_x0
 replace Y_x0 := zz2 K_x0
 have Z_g0 := z2 K_g0
 have Y_g0 := zz2 K_g0
 go_wp2_with fail
 replace K_aT := bdrew K_aT
 replace K_w0 := bdrew K_w0
 replace K_x0 := bdrew K_x0
 replace K_g0 := bdrew K_g0
 replace S_w0 := sdrew S_w0
 replace S_x0 := sdrew S_x0
 replace S_g0 := sdrew S_g0
 replace HB := Aside0.mk (below_drew1 HB.out)
 have n7 : w6.heap.size ≤ w6.drew.heap.size := Nat.le_refl _
 clear Z_aT Y_aT Z_w0 Y_w0 Z_x0 Y_x0 Z_g0 Y_g0
 refine st_ 5 (fun w' => w'.cell? ⟨w4.heap.size, 0, none⟩ = some (.slice A_x0 tl.length c_x0) ∧ w'.cell? ⟨w4.heap.size, 1, none⟩ = some (.int .i64 tn) ∧ w'.cell? ⟨w.heap.size, 0, none⟩ = some (.slice A0_0 l0_0.length c0_0) ∧ w'.cell? ⟨w.heap.size, 1, none⟩ = some (.int .i64 a0_1)) laws_FnExactDropInode.tab10 laws_FnExactDropInode.bits10 oH (fun hHeld HT_ HW_ => ?_)
 generalize w6.drew = w7 at HB hHeld n7 K_aT K_w0 K_x0 K_g0 S_w0 S_x0 S_g0 ⊢
 refine ta_ 0 31 HT_ HW_ hHeld ?_
 refine ta_ 1 32 HT_ HW_ hHeld ?_
 refine on_ 2 33 HT_ (fun K hK => ?_)
 refine gr_ 33 Try.func35 (laws_toTab.calls k _ _ l0_0 a0_1 tl tn _ (kC HR0_0) HC0_0.out H2.out) ?_
 rintro e w8 ⟨v_y0, rfl, h_y0, hb⟩
 obtain ⟨A_y0, c_y0, rfl⟩ := Kd.S_slice h_y0
 have S_y0 := siv' h_y0 (w7.heap.size) w.heap.size (by simp) (below_size oB)
 clear h_y0
 refine ⟨_, rfl, ?_⟩
 have n8 : w7.heap.size ≤ w8.heap.size := by have := hb.size; simpa using this
 replace K_aT := bstep K_aT hb
 replace K_w0 := bstep K_w0 hb
 replace K_x0 := bstep K_x0 hb
 replace K_g0 := bstep K_g0 hb
 replace S_w0 := sb S_w0 hb
 replace S_x0 := sb S_x0 hb
 replace S_g0 := sb S_g0 hb
 replace HB := Aside0.mk (below_step oB hb)
 clear hb hHeld
 refine hk_ hK 33 oH (fun hHeld => ?_)
 clear hK K
 refine on_ 3 34 HT_ (fun K hK => ?_)
 refine gr_ 34 Try.func25 (laws_eqTab.calls k _ _ tl tn _ _ tl tn true _ (rS S_x0) (rl S_x0) (rS S_y0) (rl S_y0) H6.out) ?_
 rintro e w9 ⟨rfl, hb⟩
 refine ⟨_, rfl, ?_⟩
 have n9 : w8.heap.size ≤ w9.heap.size := by have := hb.size; simpa using this
 replace K_aT := bstep K_aT hb
 replace K_w0 := bstep K_w0 hb
 replace K_x0 := bstep K_x0 hb
 replace K_g0 := bstep K_g0 hb
 replace S_w0 := sb S_w0 hb
 replace S_x0 := sb S_x0 hb
 replace S_g0 := sb S_g0 hb
 replace S_y0 := sb S_y0 hb
 replace HB := Aside0.mk (below_step oB hb)
 clear hb hHeld
 refine hk_ hK 34 oH (fun hHeld => ?_)
 clear hK K
 refine pu_ 4 35 HT_ ?_
 refine dn_ HT_ ?_
 clear hHeld HT_ HW_
 have Z_aT := z2 K_aT
 have Y_aT := zz2 K_aT
 have Z_w0 := z2 K_w0
 have Y_w0 := zz2 K_w0
 have Z_x0 := z2 K_x0
 have Y_x0 := zz2 K_x0
 have Z_g0 := z2 K_g0
 have Y_g0 := zz2 K_g0
 clear S_y0
 go_wp2_with fail
 refine (laws_markTab.calls k _ _ tl tn 1 mt ml w _ HB.out S_x0.out H7.out).mono ?_
 rintro e w10 ⟨rfl, h_x0, hb, hk⟩
 have n10 : w9.heap.size ≤ w10.heap.size := hk.1
 replace S_w0 := sk S_w0 hk (fun q h h' => by omega)
 replace S_g0 := sk S_g0 hk (fun q h h' => by omega)
 replace K_aT := bkept K_aT hk (fun h => by omega)
 replace K_w0 := bkept K_w0 hk (fun h => by omega)
 clear K_x0 Z_x0 Y_x0
 replace K_g0 := bkept K_g0 hk (fun h => by omega)
 clear S_x0
 clear h_x0
 replace HB := Aside0.mk hb
 clear hb hk
 replace Z_aT := z2 K_aT
 replace Y_aT := zz2 K_aT
 replace Z_w0 := z2 K_w0
 replace Y_w0 := zz2 K_w0
 replace Z_g0 := z2 K_g0
 replace Y_g0 := zz2 K_g0
 go_wp2_with fail
 refine (laws_eqTab.calls k _ _ sl sn _ _ pl pn true _ (rS S_g0) (rl S_g0) (rS S_w0) (rl S_w0) H5.out).mono ?_
 rintro e w11 ⟨rfl, hb⟩
 have n11 : w10.heap.size ≤ w11.heap.size := by have := hb.size; simpa using this
 replace K_aT := bstep K_aT hb
 replace K_w0 := bstep K_w0 hb
 replace K_g0 := bstep K_g0 hb
 replace S_w0 := sb S_w0 hb
 replace S_g0 := sb S_g0 hb
 replace HB := Aside0.mk (below_step oB hb)
 clear hb
 replace Z_aT := z2 K_aT
 replace Y_aT := zz2 K_aT
 replace Z_w0 := z2 K_w0
 replace Y_w0 := zz2 K_w0
 replace Z_g0 := z2 K_g0
 replace Y_g0 := zz2 K_g0
 go_wp2_with fail
 refine (laws_markTab.calls k _ _ sl sn 1 q mg w _ HB.out S_g0.out H8.out).mono ?_
 rintro e w12 ⟨rfl, h_g0, hb, hk⟩
 have n12 : w11.heap.size ≤ w12.heap.size := hk.1
 replace S_w0 := sk S_w0 hk (fun q h h' => by omega)
 replace K_aT := bkept K_aT hk (fun h => by omega)
 replace K_w0 := bkept K_w0 hk (fun h => by omega)
 replace K_g0 := bkept K_g0 hk (fun h => by omega)
 replace S_g0 := Aside0.mk h_g0
 clear h_g0
 replace HB := Aside0.mk hb
 clear hb hk
 replace Z_aT := z2 K_aT
 replace Y_aT := zz2 K_aT
 replace Z_w0 := z2 K_w0
 replace Y_w0 := zz2 K_w0
 replace Z_g0 := z2 K_g0
 replace Y_g0 := zz2 K_g0
 go_wp2_with fail
 refine (laws_heldTab.calls' k _ _ _ mg sn 1 q _ L4.out (rS S_g0) (rl S_g0) H9.out).mono ?_
 rintro e w13 ⟨rfl, hb⟩
 have n13 : w12.heap.size ≤ w13.heap.size := by have := hb.size; simpa using this
 replace K_aT := bstep K_aT hb
 replace K_w0 := bstep K_w0 hb
 replace K_g0 := bstep K_g0 hb
 replace S_w0 := sb S_w0 hb
 replace S_g0 := sb S_g0 hb
 replace HB := Aside0.mk (below_step oB hb)
 clear hb
 replace Z_aT := z2 K_aT
 replace Y_aT := zz2 K_aT
 replace Z_w0 := z2 K_w0
 replace Y_w0 := zz2 K_w0
 replace Z_g0 := z2 K_g0
 replace Y_g0 := zz2 K_g0
 go_wp2_with fail
 refine (laws_toTab.calls k _ _ l0_0 a0_1 tl tn _ (kC HR0_0) HC0_0.out H2.out).mono ?_
 rintro e w14 ⟨v_z0, rfl, h_z0, hb⟩
 obtain ⟨A_z0, c_z0, rfl⟩ := Kd.S_slice h_z0
 have S_z0 := siv' h_z0 (w13.heap.size) w.heap.size (by simp) (below_size oB)
 clear h_z0
 have n14 : w13.heap.size ≤ w14.heap.size := by have := hb.size; simpa using this
 replace K_aT := bstep K_aT hb
 replace K_w0 := bstep K_w0 hb
 replace K_g0 := bstep K_g0 hb
 replace S_w0 := sb S_w0 hb
 replace S_g0 := sb S_g0 hb
 replace HB := Aside0.mk (below_step oB hb)
 clear hb
 replace Z_aT := z2 K_aT
 replace Y_aT := zz2 K_aT
 replace Z_w0 := z2 K_w0
 replace Y_w0 := zz2 K_w0
 replace Z_g0 := z2 K_g0
 replace Y_g0 := zz2 K_g0
 go_wp2_with fail
 refine (impl_DropInode.calls k _ _ tl tn a1 sl sn _ (rS S_z0) (rl S_z0) H4.out).mono ?_
 rintro e w15 ⟨v_h0, rfl, h_h0, hb⟩
 obtain ⟨A_h0, c_h0, rfl⟩ := Kd.S_slice h_h0
 have S_h0 := siv' h_h0 (w14.heap.size) w.heap.size (by simp) (below_size oB)
 clear h_h0
 have n15 : w14.heap.size ≤ w15.heap.size := by have := hb.size; simpa using this
 replace K_aT := bstep K_aT hb
 replace K_w0 := bstep K_w0 hb
 replace K_g0 := bstep K_g0 hb
 replace S_w0 := sb S_w0 hb
 replace S_g0 := sb S_g0 hb
 replace S_z0 := sb S_z0 hb
 replace HB := Aside0.mk (below_step oB hb)
 clear hb
 replace Z_aT := z2 K_aT
 replace Y_aT := zz2 K_aT
 replace Z_w0 := z2 K_w0
 replace Y_w0 := zz2 K_w0
 replace Z_g0 := z2 K_g0
 replace Y_g0 := zz2 K_g0
 go_wp2_with fail
 refine (laws_eqTab.calls k _ _ sl sn _ _ pl pn true _ (rS S_h0) (rl S_h0) (rS S_w0) (rl S_w0) H5.out).mono ?_
 rintro e w16 ⟨rfl, hb⟩
 have n16 : w15.heap.size + 1 ≤ w16.heap.size := by have := hb.size; simpa using this
 have K_h0 := bnew hb
 replace hb := bold hb
 replace K_aT := bstep K_aT hb
 replace K_w0 := bstep K_w0 hb
 replace K_g0 := bstep K_g0 hb
 replace S_w0 := sb S_w0 hb
 replace S_g0 := sb S_g0 hb
 replace S_z0 := sb S_z0 hb
 replace S_h0 := sb S_h0 hb
 replace HB := Aside0.mk (below_step oB hb)
 clear hb
 replace Z_aT := z2 K_aT
 replace Y_aT := zz2 K_aT
 replace Z_w0 := z2 K_w0
 replace Y_w0 := zz2 K_w0
 replace Z_g0 := z2 K_g0
 replace Y_g0 := zz2 K_g0
 have Z_h0 := z2 K_h0
 have Y_h0 := zz2 K_h0
 go_wp2_with fail
 refine (laws_heldTab.calls' k _ _ _ mg sn 1 q _ L4.out (rS S_g0) (rl S_g0) H9.out).mono ?_
 rintro e w17 ⟨rfl, hb⟩
 have n17 : w16.heap.size ≤ w17.heap.size := by have := hb.size; simpa using this
 replace K_aT := bstep K_aT hb
 replace K_w0 := bstep K_w0 hb
 replace K_g0 := bstep K_g0 hb
 replace K_h0 := bstep K_h0 hb
 replace S_w0 := sb S_w0 hb
 replace S_g0 := sb S_g0 hb
 replace S_z0 := sb S_z0 hb
 replace S_h0 := sb S_h0 hb
 replace HB := Aside0.mk (below_step oB hb)
 clear hb
 replace Z_aT := z2 K_aT
 replace Y_aT := zz2 K_aT
 replace Z_w0 := z2 K_w0
 replace Y_w0 := zz2 K_w0
 replace Z_g0 := z2 K_g0
 replace Y_g0 := zz2 K_g0
 replace Z_h0 := z2 K_h0
 replace Y_h0 := zz2 K_h0
 go_wp2_with fail
 go_ret
 exact ⟨rfl, oB⟩
end Go.Proofs.Ytkknehgaebhbeaa.P
