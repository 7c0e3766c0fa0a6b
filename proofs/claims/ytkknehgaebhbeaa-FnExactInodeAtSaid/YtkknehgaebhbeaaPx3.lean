-- By this session's own program (wip/myprint.py) out of the translation; Lean checks it.
import Derived.Test.YtkknehgaebhbeaaPx0
import Derived.Test.YtkknehgaebhbeaaPx1
import Derived.Test.YtkknehgaebhbeaaPx2
namespace Go.Proofs.Ytkknehgaebhbeaa.P
open Go.RowKit Go.Proofs.YtkknehgaebhbeaaW.PrintWords Go.Proofs.YtkknehgaebhbeaaW.PrintLast Go.Proofs.YtkknehgaebhbeaaW.PrintMore
attribute [local go_sem] max2_int min2_int max_two min_two max_three min_three max_four min_four   -- for this text's walks alone
set_option linter.unusedVariables false
set_option linter.unusedSimpArgs false

/-! ### spec_InodeAt: function 51 -/
def spec_InodeAt.f (k : Nat) (l0_0 : List (S45)) (a0_1 : Int) (a1 : Int) : Option (Int × Int × Int × List Int × (List (S83)) × (List (S85)) × Bool) := (spec_l4At.f k l0_0 a0_1 a1).bind fun t241 => (if t241 < 0 then (some (0, 0, 0, ([] : List Int), ([] : List (S83)), ([] : List (S85)), false)) else (if 0 ≤ t241 then (if t241 < (l0_0.length : Int) then ((spec_l3Copy.f ((rd_T45 l0_0 t241).f0) ((rd_T45 l0_0 t241).f1) ((rd_T45 l0_0 t241).f2) ((rd_T45 l0_0 t241).f3) ((rd_T45 l0_0 t241).f4) ((rd_T45 l0_0 t241).f5)).bind fun bt243 => (some (bt243.1, bt243.2.1, bt243.2.2.1, bt243.2.2.2.1, bt243.2.2.2.2.1, bt243.2.2.2.2.2, true))) else (none)) else (none)))
set_option maxHeartbeats 8000000 in
set_option maxRecDepth 100000 in
theorem spec_InodeAt.calls (k : Nat) (A0_0 : Option Addr) (c0_0 : Nat) (l0_0 : List (S45)) (a0_1 : Int) (a1 : Int) (r1 : Int) (r2 : Int) (r3 : Int) (r4 : List Int) (r5 : List (S83)) (r6 : List (S85)) (r7 : Bool) (w : World) (hr0_0 : Kd.C k45 w A0_0 l0_0.length l0_0) (hc0_0 : l0_0.length ≤ c0_0) (h : spec_InodeAt.f k l0_0 a0_1 a1 = some (r1, r2, r3, r4, r5, r6, r7)) :
  Calls Try.prog 51 #[.agg #[.slice A0_0 l0_0.length c0_0, .int .i64 a0_1], .int .i64 a1] w fun e w' => ∃ v3_ v4_ v5_ : Value, e = .returned (.tuple #[.agg #[.int .i64 r1, .int .i64 r2, .int .i64 r3, v3_, v4_, v5_], .bool r7]) ∧ Kd.R (Kd.int .u8) 5 w' w.heap.size (fun _ => True) v3_ r4 ∧ Kd.R k83 83 w' w.heap.size (fun _ => True) v4_ r5 ∧ Kd.R k85 85 w' w.heap.size (fun _ => True) v5_ r6 ∧ Below w.heap.size w w' := by
 have hu30 := Try.underlying30
 have hu45 := Try.underlying45
 have HR0_0 := Aside0.mk hr0_0
 have HC0_0 := Aside0.mk hc0_0
 clear hr0_0 hc0_0
 have HB := Aside0.mk (Below.refl w.heap.size w)
 unfold spec_InodeAt.f at h
 have H := h
 clear h
 replace H := bA H
 obtain ⟨t241, A3, H⟩ := H
 try dsimp only at H
 replace H := itD H
 rcases H with ⟨c4b0, H⟩ | ⟨c4b0, H⟩
 ·simp only [Option.some.injEq, Prod.mk.injEq] at H
  obtain ⟨rfl, rfl, rfl, rfl, rfl, rfl, rfl⟩ := H
  go_enter Try.func51, Try.ntmps51
  go_wp2_with (first | ((with_reducible refine gate_dst (N := 2) rfl ?_); refine bx_ 2 #[.slice A0_0 l0_0.length c0_0, .int .i64 a0_1] 30 ?_; intro gb239 hg w5 hbox hb; have BK239 := Aside0.mk (hbox); have GW239 := gs_ hg; have GE239 := gs_ hg; replace HB := Aside0.mk (below_step oB hb); clear hb hbox hg) | ((with_reducible refine gate_dst (N := 4) rfl ?_); refine bx_ 4 #[.int .i64 0, .int .i64 0, .int .i64 0, .slice none 0 0, .slice none 0 0, .slice none 0 0] 45 ?_; intro gb240 hg w6 hbox hb; have BK240 := Aside0.mk (hbox); have GW240 := gs_ hg; have GE240 := gs_ hg; have NB239_240 := nl_ hg BK239; have NB240_239 := nr_ hg BK239; replace BK239 := kb_ BK239 hb; replace HB := Aside0.mk (below_step oB hb); clear hb hbox hg; have hnb7 := NB239_240.out; have hnc7 := NB240_239.out; obtain ⟨⟨_, _⟩, _, _⟩ := z2 BK239) | ((with_reducible refine gate_callee (f := 101) rfl ?_); refine gl_ 9 Try.func101 (spec_l4At.calls k _ _ l0_0 a0_1 a1 t241 _ (kC HR0_0) HC0_0.out A3.out) ?_; rintro e w9 ⟨rfl, hb⟩; refine ⟨_, rfl, ?_⟩; replace BK239 := kb_ BK239 hb; replace BK240 := kb_ BK240 hb; replace HB := Aside0.mk (below_step oB hb); obtain ⟨⟨_, _, _, _, _, _⟩, _, _, _, _, _, _⟩ := z6 BK240))
  refine bodyPost_ret (results_ct rfl _ _ gb240 45 #[.int .i64 0, .int .i64 0, .int .i64 0, .slice none 0 0, .slice none 0 0, .slice none 0 0] (0, 0) _ rfl (by (with_reducible repeat (first | refine blk_drewN ?_ _ | refine blk_drew ?_ | refine blk_alloc ?_ _)); refine blk_put (cs := #[.int .i64 0, .int .i64 0, .int .i64 0, .slice none 0 0, .slice none 0 0, .slice none 0 0]) ?_ 5 _ rfl; (with_reducible repeat (first | refine blk_drewN ?_ _ | refine blk_drew ?_ | refine blk_alloc ?_ _)); refine blk_put (cs := #[.int .i64 0, .int .i64 0, .int .i64 0, .slice none 0 0, .slice none 0 0, .slice none 0 0]) ?_ 4 _ rfl; (with_reducible repeat (first | refine blk_drewN ?_ _ | refine blk_drew ?_ | refine blk_alloc ?_ _)); refine blk_put (cs := #[.int .i64 0, .int .i64 0, .int .i64 0, .slice none 0 0, .slice none 0 0, .slice none 0 0]) ?_ 3 _ rfl; (with_reducible repeat (first | refine blk_drewN ?_ _ | refine blk_drew ?_ | refine blk_alloc ?_ _)); refine blk_put (cs := #[.int .i64 0, .int .i64 0, .int .i64 0, .slice none 0 0, .slice none 0 0, .slice none 0 0]) ?_ 2 _ rfl; (with_reducible repeat (first | refine blk_drewN ?_ _ | refine blk_drew ?_ | refine blk_alloc ?_ _)); refine blk_put (cs := #[.int .i64 0, .int .i64 0, .int .i64 0, .slice none 0 0, .slice none 0 0, .slice none 0 0]) ?_ 1 _ rfl; (with_reducible repeat (first | refine blk_drewN ?_ _ | refine blk_drew ?_ | refine blk_alloc ?_ _)); refine blk_put (cs := #[.int .i64 0, .int .i64 0, .int .i64 0, .slice none 0 0, .slice none 0 0, .slice none 0 0]) ?_ 0 _ rfl; (with_reducible repeat (first | refine blk_drewN ?_ _ | refine blk_drew ?_ | refine blk_alloc ?_ _)); exact BK240.out) Try.underlying45 rfl (by kernel_rfl)) rfl ?_
  exact ⟨_, _, _, oE, by first | exact Kd.R_nil _ _ _ _ _ | exact Kd.N_nil _ _ _ _ _ | exact Kd.V_nil _ _ _ _ _ | exact Kd.Q_nil _ _ _ _ _ | exact Kd.S_nil _ _ _ _ _, by first | exact Kd.R_nil _ _ _ _ _ | exact Kd.N_nil _ _ _ _ _ | exact Kd.V_nil _ _ _ _ _ | exact Kd.Q_nil _ _ _ _ _ | exact Kd.S_nil _ _ _ _ _, by first | exact Kd.R_nil _ _ _ _ _ | exact Kd.N_nil _ _ _ _ _ | exact Kd.V_nil _ _ _ _ _ | exact Kd.Q_nil _ _ _ _ _ | exact Kd.S_nil _ _ _ _ _, oB⟩
 ·replace H := itD H
  rcases H with ⟨c11b0, H⟩ | ⟨c11b0, H⟩
  ·replace H := itD H
   rcases H with ⟨c12b0, H⟩ | ⟨c12b0, H⟩
   ·replace H := bA H
    obtain ⟨⟨t243, t244, t245, t246, t249, t252⟩, A13, H⟩ := H
    try dsimp only at H
    simp only [Option.some.injEq, Prod.mk.injEq] at H
    obtain ⟨rfl, rfl, rfl, rfl, rfl, rfl, rfl⟩ := H
    go_enter Try.func51, Try.ntmps51
    go_wp2_with (first | ((with_reducible refine gate_dst (N := 2) rfl ?_); refine bx_ 2 #[.slice A0_0 l0_0.length c0_0, .int .i64 a0_1] 30 ?_; intro gb239 hg w14 hbox hb; have BK239 := Aside0.mk (hbox); have GW239 := gs_ hg; have GE239 := gs_ hg; replace HB := Aside0.mk (below_step oB hb); clear hb hbox hg) | ((with_reducible refine gate_dst (N := 4) rfl ?_); refine bx_ 4 #[.int .i64 0, .int .i64 0, .int .i64 0, .slice none 0 0, .slice none 0 0, .slice none 0 0] 45 ?_; intro gb240 hg w15 hbox hb; have BK240 := Aside0.mk (hbox); have GW240 := gs_ hg; have GE240 := gs_ hg; have NB239_240 := nl_ hg BK239; have NB240_239 := nr_ hg BK239; replace BK239 := kb_ BK239 hb; replace HB := Aside0.mk (below_step oB hb); clear hb hbox hg; have hnb16 := NB239_240.out; have hnc16 := NB240_239.out; obtain ⟨⟨_, _⟩, _, _⟩ := z2 BK239) | ((with_reducible refine gate_callee (f := 101) rfl ?_); refine gl_ 9 Try.func101 (spec_l4At.calls k _ _ l0_0 a0_1 a1 t241 _ (kC HR0_0) HC0_0.out A3.out) ?_; rintro e w18 ⟨rfl, hb⟩; refine ⟨_, rfl, ?_⟩; replace BK239 := kb_ BK239 hb; replace BK240 := kb_ BK240 hb; replace HB := Aside0.mk (below_step oB hb); obtain ⟨⟨_, _⟩, _, _⟩ := z2 BK239; have p242 : (0 ≤ (t241 : Int)) = True := oT; have q242 : (t241 < (l0_0.length : Int)) = True := oT; obtain ⟨ad242, A242_3, c242_3, A242_4, c242_4, A242_5, c242_5, e242, hx242_0, hx242_1, hx242_2, hx242_3, hx242_4, hx242_5, hl242_3, hi242_3, hl242_4, hi242_4, hl242_5, hi242_5⟩ := at_T45 HR0_0.out t241 oa oa; cases e242; replace hx242_0 := cB HB hx242_0; replace hx242_1 := cB HB hx242_1; replace hx242_2 := cB HB hx242_2; replace hx242_3 := cB HB hx242_3; replace hx242_4 := cB HB hx242_4; replace hx242_5 := cB HB hx242_5; have HR242_3 := Aside0.mk hi242_3; have HC242_3 := Aside0.mk hl242_3; clear hi242_3 hl242_3; have HR242_4 := Aside0.mk hi242_4; have HC242_4 := Aside0.mk hl242_4; clear hi242_4 hl242_4; have HR242_5 := Aside0.mk hi242_5; have HC242_5 := Aside0.mk hl242_5; clear hi242_5 hl242_5) | ((with_reducible refine gate_callee (f := 102) rfl ?_); refine gl_ 18 Try.func102 (spec_l3Copy.calls ((rd_T45 l0_0 t241).f0) ((rd_T45 l0_0 t241).f1) ((rd_T45 l0_0 t241).f2) _ _ ((rd_T45 l0_0 t241).f3) _ _ ((rd_T45 l0_0 t241).f4) _ _ ((rd_T45 l0_0 t241).f5) t243 t244 t245 t246 t249 t252 _ (kC HR242_3) HC242_3.out (kC HR242_4) HC242_4.out (kC HR242_5) HC242_5.out A13.out) ?_; rintro e w20 ⟨v247, v250, v253, rfl, ho0, ho1, ho2, hb⟩; refine ⟨_, rfl, ?_⟩; have HO248 := Aside0.mk (Kd.R_lower ho0 (below_size oB)); have HO251 := Aside0.mk (Kd.R_lower ho1 (below_size oB)); have HO254 := Aside0.mk (Kd.R_lower ho2 (below_size oB)); replace BK239 := kb_ BK239 hb; replace BK240 := kb_ BK240 hb; replace HB := Aside0.mk (below_step oB hb); (try clear ho1); (try clear ho2); obtain ⟨⟨_, _, _, _, _, _⟩, _, _, _, _, _, _⟩ := z6 BK240; obtain ⟨Ao22, co22, eo22⟩ := Kd.R_slice HO248.out; subst eo22; obtain ⟨Ao23, co23, eo23⟩ := Kd.R_slice HO251.out; subst eo23; obtain ⟨Ao24, co24, eo24⟩ := Kd.R_slice HO254.out; subst eo24))
    refine bodyPost_ret (results_ct rfl _ _ gb240 45 #[.int .i64 t243, .int .i64 t244, .int .i64 t245, .slice Ao22 t246.length co22, .slice Ao23 t249.length co23, .slice Ao24 t252.length co24] (0, 0) _ rfl (by (with_reducible repeat (first | refine blk_drewN ?_ _ | refine blk_drew ?_ | refine blk_alloc ?_ _)); refine blk_put (cs := #[.int .i64 t243, .int .i64 t244, .int .i64 t245, .slice Ao22 t246.length co22, .slice Ao23 t249.length co23, .slice none 0 0]) ?_ 5 _ rfl; (with_reducible repeat (first | refine blk_drewN ?_ _ | refine blk_drew ?_ | refine blk_alloc ?_ _)); refine blk_put (cs := #[.int .i64 t243, .int .i64 t244, .int .i64 t245, .slice Ao22 t246.length co22, .slice none 0 0, .slice none 0 0]) ?_ 4 _ rfl; (with_reducible repeat (first | refine blk_drewN ?_ _ | refine blk_drew ?_ | refine blk_alloc ?_ _)); refine blk_put (cs := #[.int .i64 t243, .int .i64 t244, .int .i64 t245, .slice none 0 0, .slice none 0 0, .slice none 0 0]) ?_ 3 _ rfl; (with_reducible repeat (first | refine blk_drewN ?_ _ | refine blk_drew ?_ | refine blk_alloc ?_ _)); refine blk_put (cs := #[.int .i64 t243, .int .i64 t244, .int .i64 0, .slice none 0 0, .slice none 0 0, .slice none 0 0]) ?_ 2 _ rfl; (with_reducible repeat (first | refine blk_drewN ?_ _ | refine blk_drew ?_ | refine blk_alloc ?_ _)); refine blk_put (cs := #[.int .i64 t243, .int .i64 0, .int .i64 0, .slice none 0 0, .slice none 0 0, .slice none 0 0]) ?_ 1 _ rfl; (with_reducible repeat (first | refine blk_drewN ?_ _ | refine blk_drew ?_ | refine blk_alloc ?_ _)); refine blk_put (cs := #[.int .i64 0, .int .i64 0, .int .i64 0, .slice none 0 0, .slice none 0 0, .slice none 0 0]) ?_ 0 _ rfl; (with_reducible repeat (first | refine blk_drewN ?_ _ | refine blk_drew ?_ | refine blk_alloc ?_ _)); exact BK240.out) Try.underlying45 rfl (by kernel_rfl)) rfl ?_
    exact ⟨_, _, _, oE, by (with_reducible repeat (first | apply Kd.R_alloc | apply Kd.R_drewN | apply Kd.R_drew)); exact Kd.R_mono (Kd.R_far (p := ⟨gb240, 5, none⟩) (Kd.R_far (p := ⟨gb240, 4, none⟩) (Kd.R_far (p := ⟨gb240, 3, none⟩) (Kd.R_far (p := ⟨gb240, 2, none⟩) (Kd.R_far (p := ⟨gb240, 1, none⟩) (Kd.R_far (p := ⟨gb240, 0, none⟩) (Kd.R_types HO248.out BK240.out (by decide)) (fun _ hk => hk.2) (.int .i64 t243)) (fun _ hk => hk.2) (.int .i64 t244)) (fun _ hk => hk.2) (.int .i64 t245)) (fun _ hk => hk.2) (.slice Ao22 t246.length co22)) (fun _ hk => hk.2) (.slice Ao23 t249.length co23)) (fun _ hk => hk.2) (.slice Ao24 t252.length co24)) (fun _ hk => trivial), by (with_reducible repeat (first | apply Kd.R_alloc | apply Kd.R_drewN | apply Kd.R_drew)); exact Kd.R_mono (Kd.R_far (p := ⟨gb240, 5, none⟩) (Kd.R_far (p := ⟨gb240, 4, none⟩) (Kd.R_far (p := ⟨gb240, 3, none⟩) (Kd.R_far (p := ⟨gb240, 2, none⟩) (Kd.R_far (p := ⟨gb240, 1, none⟩) (Kd.R_far (p := ⟨gb240, 0, none⟩) (Kd.R_types HO251.out BK240.out (by decide)) (fun _ hk => hk.2) (.int .i64 t243)) (fun _ hk => hk.2) (.int .i64 t244)) (fun _ hk => hk.2) (.int .i64 t245)) (fun _ hk => hk.2) (.slice Ao22 t246.length co22)) (fun _ hk => hk.2) (.slice Ao23 t249.length co23)) (fun _ hk => hk.2) (.slice Ao24 t252.length co24)) (fun _ hk => trivial), by (with_reducible repeat (first | apply Kd.R_alloc | apply Kd.R_drewN | apply Kd.R_drew)); exact Kd.R_mono (Kd.R_far (p := ⟨gb240, 5, none⟩) (Kd.R_far (p := ⟨gb240, 4, none⟩) (Kd.R_far (p := ⟨gb240, 3, none⟩) (Kd.R_far (p := ⟨gb240, 2, none⟩) (Kd.R_far (p := ⟨gb240, 1, none⟩) (Kd.R_far (p := ⟨gb240, 0, none⟩) (Kd.R_types HO254.out BK240.out (by decide)) (fun _ hk => hk.2) (.int .i64 t243)) (fun _ hk => hk.2) (.int .i64 t244)) (fun _ hk => hk.2) (.int .i64 t245)) (fun _ hk => hk.2) (.slice Ao22 t246.length co22)) (fun _ hk => hk.2) (.slice Ao23 t249.length co23)) (fun _ hk => hk.2) (.slice Ao24 t252.length co24)) (fun _ hk => trivial), oB⟩
   ·cases H
  ·cases H

-- NOT PRINTED: function 111 (slices_IndexFunc_Inode)

/-! ### impl_placeOf: function 103 -/
def placeR (ino : Int) : List S45 → Nat → Int
 | [], _ => -1
 | x :: l, i => if x.f0 = ino then (i : Int) else placeR ino l (i + 1)
theorem placeOf1.calls (ino a b c : Int) (A3 A4 A5 : Option Addr) (n3 c3 n4 c4 n5 c5 : Nat) (B : Nat) (W : World) (hB : B < W.heap.size) (hc : W.cell? ⟨B, 0, none⟩ = some (.int .i64 ino)) :
  Calls Try.prog 133 #[.agg #[.int .i64 a, .int .i64 b, .int .i64 c, .slice A3 n3 c3, .slice A4 n4 c4, .slice A5 n5 c5], .pointer (some ⟨B, 0, none⟩)] W fun e w' => e = .returned (.bool (a == ino)) ∧ Below W.heap.size W w' := by
 have hne : B ≠ W.heap.size := by omega
 go_enter Try.func133, Try.ntmps133
 go_wp2
 all_goals (go_ret; exact ⟨by simp_all, (Below.refl _ W).alloc (Nat.le_refl _) _⟩)
theorem placeR_none (ino : Int) (l : List S45) (i : Nat) (h : ∀ x ∈ l, x.f0 ≠ ino) : placeR ino l i = -1 := by
 induction l generalizing i with
 | nil => rfl
 | cons x l ih => rw [placeR, if_neg (h x (List.mem_cons_self ..))]; exact ih (i + 1) (fun y hy => h y (List.mem_cons_of_mem _ hy))
theorem rd45_at (l : List S45) (k : Nat) (h : k < l.length) : rd_T45 l (k : Int) = l[k] := by
 simp [rd_T45, List.getD_eq_getElem?_getD, List.getElem?_eq_getElem h]
theorem placeR_hit (ino : Int) (l : List S45) (k j : Nat) (h : k < l.length) (hit : (rd_T45 l (k : Int)).f0 = ino) : placeR ino (l.drop k) j = (j : Int) := by
 rw [List.drop_eq_getElem_cons h, placeR, if_pos (by rw [← rd45_at l k h]; exact hit)]
theorem placeR_miss (ino : Int) (l : List S45) (k j : Nat) (h : k < l.length) (hit : (rd_T45 l (k : Int)).f0 ≠ ino) : placeR ino (l.drop k) j = placeR ino (l.drop (k + 1)) (j + 1) := by
 rw [List.drop_eq_getElem_cons h, placeR, if_neg (by rw [← rd45_at l k h]; exact hit)]
set_option maxHeartbeats 400000 in
set_option maxRecDepth 100000 in
theorem placeOf2.calls (ino : Int) (A0 : Option Addr) (c0 : Nat) (l : List S45) (B : Nat) (w : World) (hr : k45.C w A0 l.length l) (hB : B < w.heap.size) (hc : w.cell? ⟨B, 0, none⟩ = some (.int .i64 ino)) (hl : l.length ≤ 9223372036854775807) :
  Calls Try.prog 111 #[.slice A0 l.length c0, .func (.func 133) #[] #[.pointer (some ⟨B, 0, none⟩)]] w fun e w' => e = .returned (.int .i64 (placeR ino l 0)) ∧ Below w.heap.size w w' := by
 go_enter Try.func111, Try.ntmps111
 go_wp2
 go_loopg [5, 8] l.length (fun gg _ s8 wr => ∃ kk : Nat, kk ≤ l.length ∧ l.length - kk ≤ gg ∧ s8 = .int .i64 kk ∧ Aside0 (Below w.heap.size w wr) ∧ Aside0 (placeR ino l 0 = placeR ino (l.drop kk) kk))
 case atStart => exact ⟨0, Nat.zero_le _, by omega, rfl, ⟨Below.refl _ w⟩, ⟨rfl⟩⟩
 case round =>
  obtain ⟨kk, hkk, hg, rfl, BW, A⟩ := hrel
  by_cases hlt : kk < l.length
  ·have hltz : (kk : Int) < (l.length : Int) := by omega
   obtain ⟨ad, A3, c3, A4, c4, A5, c5, e0, h0, h1, h2, h3, h4, h5, _⟩ := at_T45 (Kd.C_below hr BW.out) (kk : Int) (by omega) hltz
   cases e0
   rw [Int.toNat_natCast] at h0 h1 h2 h3 h4 h5
   have hBw : B < wr.heap.size := Nat.lt_of_lt_of_le hB BW.out.size
   have hcw : wr.cell? ⟨B, 0, none⟩ = some (.int .i64 ino) := (BW.out.cell (p := ⟨B, 0, none⟩) hB).trans hc
   by_cases hit : (rd_T45 l (kk : Int)).f0 = ino
   ·have hq : ((rd_T45 l (kk : Int)).f0 == ino) = true := by simpa using hit
    go_wp2_with (go_at_call 133; refine (placeOf1.calls ino _ _ _ _ _ _ _ _ _ _ _ _ B wr hBw hcw).mono ?_; rintro e w' ⟨rfl, hb'⟩)
    go_ret
    exact ⟨by rw [A.out, placeR_hit ino l kk kk hlt hit]; rfl, below_then BW.out BW.out.size hb'⟩
   ·have hq : ((rd_T45 l (kk : Int)).f0 == ino) = false := by simpa using hit
    go_wp2_with (go_at_call 133; refine (placeOf1.calls ino _ _ _ _ _ _ _ _ _ _ _ _ B wr hBw hcw).mono ?_; rintro e w' ⟨rfl, hb'⟩)
    go_roundg (l.length - (kk + 1))
    case measure => omega
    case rel => exact ⟨kk + 1, by omega, by omega, by go_num, ⟨below_then BW.out BW.out.size hb'⟩, ⟨by rw [A.out, placeR_miss ino l kk kk hlt hit]⟩⟩
  ·have hltz : ¬ (kk : Int) < (l.length : Int) := by omega
   obtain rfl : kk = l.length := by omega
   go_wp2
   go_ret
   exact ⟨by rw [A.out, List.drop_length]; rfl, BW.out⟩
def impl_placeOf.f (k : Nat) (l0_0 : List S45) (a0_1 a1 : Int) : Option Int := if (l0_0.length : Int) ≤ 9223372036854775807 then some (placeR a1 l0_0 0) else none
set_option maxHeartbeats 400000 in
theorem impl_placeOf.calls (k : Nat) (A0_0 : Option Addr) (c0_0 : Nat) (l0_0 : List S45) (a0_1 a1 : Int) (r : Int) (w : World) (hr0_0 : Kd.C k45 w A0_0 l0_0.length l0_0) (hc0_0 : l0_0.length ≤ c0_0) (h : impl_placeOf.f k l0_0 a0_1 a1 = some r) :
  Calls Try.prog 103 #[.agg #[.slice A0_0 l0_0.length c0_0, .int .i64 a0_1], .int .i64 a1] w fun e w' => e = .returned (.int .i64 r) ∧ Below w.heap.size w w' := by
 unfold impl_placeOf.f at h
 split at h
 case isFalse => cases h
 case isTrue hl =>
 obtain rfl := Option.some.inj h
 clear h
 have hw1 : Below w.heap.size w (w.alloc (.cells #[.slice A0_0 l0_0.length c0_0, .int .i64 a0_1] 30)) := (Below.refl _ w).alloc (Nat.le_refl _) _
 have hw2 : Below w.heap.size w ((w.alloc (.cells #[.slice A0_0 l0_0.length c0_0, .int .i64 a0_1] 30)).alloc (.cells #[.int .i64 a1] 3)) := hw1.alloc (by simp) _
 have hcon := placeOf2.calls a1 A0_0 c0_0 l0_0 (w.heap.size + 1) ((w.alloc (.cells #[.slice A0_0 l0_0.length c0_0, .int .i64 a0_1] 30)).alloc (.cells #[.int .i64 a1] 3)) (Kd.C_below hr0_0 hw2) (by simp) (by simp) (by omega)
 clear hr0_0 hw1
 go_enter Try.func103, Try.ntmps103
 go_wp2_with (go_at_call 111; refine hcon.mono ?_; rintro e w' ⟨rfl, hb'⟩)
 go_ret
 exact ⟨rfl, below_then hw2 (by simp only [World.size_alloc]; omega) hb'⟩
/-! ### slices_Clone_byte_byte: function 131 -/
def slices_Clone_byte_byte.f (l0 : List Int) : Option (List Int) := (some (([] : List Int) : List Int)).bind fun y255 => (if y255.length + l0.length < 140737488355328 then (some (y255 ++ l0)) else (none))
set_option maxHeartbeats 8000000 in
set_option maxRecDepth 100000 in
theorem slices_Clone_byte_byte.calls_some (a0_ : Addr) (c0 : Nat) (l0 : List Int) (r : List Int) (w : World) (hr0 : Kd.C (Kd.int .u8) w (some a0_) l0.length l0) (hc0 : l0.length ≤ c0) (h : slices_Clone_byte_byte.f l0 = some r) :
  Calls Try.prog 131 #[.slice (some a0_) l0.length c0] w fun e w' => ∃ v0_ : Value, e = .returned (v0_) ∧ Kd.R (Kd.int .u8) 5 w' w.heap.size (fun _ => True) v0_ r ∧ Below w.heap.size w w' := by
 have HR0 := Aside0.mk hr0
 have HC0 := Aside0.mk hc0
 clear hr0 hc0
 have HB := Aside0.mk (Below.refl w.heap.size w)
 unfold slices_Clone_byte_byte.f at h
 have H := h
 clear h
 obtain ⟨y255, hy255⟩ : ∃ y_ : List Int, y_ = (([] : List Int)) := ⟨_, rfl⟩
 replace H : (if y255.length + l0.length < 140737488355328 then (some (y255 ++ l0)) else (none)) = some r := by first | (rw [hy255]; with_reducible exact H) | (have H2_ := (Option.bind_some _ _).symm.trans H; rw [hy255]; with_reducible exact H2_) | (have H2_ := (Option.bind_some _ _).symm.trans H; with_reducible exact H2_) | with_reducible exact H | (rw [hy255]; exact H) | exact H
 have Ny255 := Aside0.mk hy255
 clear hy255
 by_cases c2 : y255.length + l0.length < 140737488355328
 ·rw [if_pos c2] at H
  have LMc2 := Aside0.mk c2
  clear c2
  obtain ⟨y258, hy258⟩ : ∃ y_ : List Int, y_ = (y255 ++ l0) := ⟨_, rfl⟩
  replace H : (some y258) = some r := by first | (rw [hy258]; with_reducible exact H) | (have H2_ := (Option.bind_some _ _).symm.trans H; rw [hy258]; with_reducible exact H2_) | (have H2_ := (Option.bind_some _ _).symm.trans H; with_reducible exact H2_) | with_reducible exact H | (rw [hy258]; exact H) | exact H
  have Ny258 := Aside0.mk hy258
  clear hy258
  obtain rfl := Option.some.inj H
  have hq_ := Lib.run_eql_slice_nil (P := Try.prog) w 35 5 (some a0_) l0.length c0 0 0 (by kernel_rfl)
  go_enter Try.func131, Try.ntmps131
  go_wp2_with (first | ((with_reducible refine gate_dst (N := 5) rfl ?_); refine Kd.R_lit (Kd.int .u8) _ 5 ?hg (N := 5) ?hd (xs := ([] : List Int)) (inner := []) (ok := fun _ => True) (okp := fun _ => True) ?hr ?hp (fun _ hk => hk) trivial (Below.refl _ _) (Nat.le_refl _) (by simp) ?_; (case hd => rfl); (case hg => rfl); (case hr => first | (go_simp; done) | (go_simp; rfl)); (case hp => exact (Reps.none _ _)); intro v256 w3 ho4 hb hg_ hnew_; clear hg_ hnew_; (first | rw [← Ny255.out] at ho4 | (simp only [Int.reduceToNat] at ho4; rw [← Ny255.out] at ho4)); have HO257 := Aside0.mk (Kd.R_lower ho4 (below_size oB)); replace HB := Aside0.mk (below_step oB hb); clear hb ho4) | ((with_reducible refine gate_builtin (b := .append) (xs := #[.tmp 5, .tmp 6]) rfl ?_); at_builtin; refine Kd.R_append_rows (Kd.int .u8) (w0 := w) w.heap.size rfl (.tmp 5) (.tmp 6) 35 5 (.int .u8 0) 1 rfl Try.underlying35 info5 rfl (by decide) (by omega) v256 y255 l0 _ _ _ (fun _ => True) (fun _ => False) rfl rfl ?aO ?aR (fun _ _ h => h) (fun _ h => h.elim) ?aF ?aB ?aS ?aL ?_; (case aR => repeat (first | exact (Kd.C_below HR0.out HB.out) | (with_reducible refine Kd.C_alloc ?_ _) | (with_reducible refine Kd.C_drewN ?_ _) | (with_reducible refine Kd.C_drew ?_))); (case aB => exact oB); (case aF => exact (fun _ _ => trivial)); (case aO => exact (oR HO257)); (case aS => exact (below_size oB)); (case aL => have := LMc2.out; omega); intro v259 w5 ho hb hg hat; rw [← Ny258.out] at ho; have HO260 := Aside0.mk (ho); replace HB := Aside0.mk (hb); clear HO257; clear ho hb hg hat))
  go_ret
  exact ⟨_, oE, oR HO260, oB⟩
 ·rw [if_neg c2] at H
  exact absurd H (by simp)

set_option maxHeartbeats 8000000 in
set_option maxRecDepth 100000 in
theorem slices_Clone_byte_byte.calls (A0 : Option Addr) (c0 : Nat) (l0 : List Int) (r : List Int) (w : World) (hr0 : Kd.C (Kd.int .u8) w A0 l0.length l0) (hc0 : l0.length ≤ c0) (h : slices_Clone_byte_byte.f l0 = some r) :
  Calls Try.prog 131 #[.slice A0 l0.length c0] w fun e w' => ∃ v0_ : Value, e = .returned (v0_) ∧ Kd.R (Kd.int .u8) 5 w' w.heap.size (fun _ => True) v0_ r ∧ Below w.heap.size w w' := by
 rcases A0 with _ | a0_
 ·have hl_ : l0 = [] := by
   rcases Nat.eq_zero_or_pos l0.length with hz_ | hz_
   ·exact List.eq_nil_of_length_eq_zero hz_
   ·obtain ⟨ad_, he_, _⟩ := hr0.2.2 hz_
    cases he_
  subst hl_
  obtain rfl : r = [] := by
   simp [slices_Clone_byte_byte.f] at h
   exact h
  have hq_ := Lib.run_eql_slice_nil (P := Try.prog) w 35 5 none 0 c0 0 0 (by kernel_rfl)
  go_enter Try.func131, Try.ntmps131
  go_wp2
  go_ret
  exact ⟨_, rfl, Kd.R_nil _ _ _ _ _, Below.refl _ _⟩
 ·exact slices_Clone_byte_byte.calls_some a0_ c0 l0 r w hr0 hc0 h

/-! ### slices_Clone_Ent: function 134 -/
def slices_Clone_Ent.f (l0 : List (S83)) : Option ((List (S83))) := (some (([] : List (S83)) : List (S83))).bind fun y261 => (if y261.length + l0.length < 5864062014805 then (some (y261 ++ l0)) else (none))
set_option maxHeartbeats 8000000 in
set_option maxRecDepth 100000 in
theorem slices_Clone_Ent.calls_some (a0_ : Addr) (c0 : Nat) (l0 : List (S83)) (r : List (S83)) (w : World) (hr0 : Kd.C k83 w (some a0_) l0.length l0) (hc0 : l0.length ≤ c0) (h : slices_Clone_Ent.f l0 = some r) :
  Calls Try.prog 134 #[.slice (some a0_) l0.length c0] w fun e w' => ∃ v0_ : Value, e = .returned (v0_) ∧ Kd.R k83 83 w' w.heap.size (fun _ => True) v0_ r ∧ Below w.heap.size w w' := by
 have HR0 := Aside0.mk hr0
 have HC0 := Aside0.mk hc0
 clear hr0 hc0
 have HB := Aside0.mk (Below.refl w.heap.size w)
 unfold slices_Clone_Ent.f at h
 have H := h
 clear h
 obtain ⟨y261, hy261⟩ : ∃ y_ : List (S83), y_ = (([] : List (S83))) := ⟨_, rfl⟩
 replace H : (if y261.length + l0.length < 5864062014805 then (some (y261 ++ l0)) else (none)) = some r := by first | (rw [hy261]; with_reducible exact H) | (have H2_ := (Option.bind_some _ _).symm.trans H; rw [hy261]; with_reducible exact H2_) | (have H2_ := (Option.bind_some _ _).symm.trans H; with_reducible exact H2_) | with_reducible exact H | (rw [hy261]; exact H) | exact H
 have Ny261 := Aside0.mk hy261
 clear hy261
 by_cases c2 : y261.length + l0.length < 5864062014805
 ·rw [if_pos c2] at H
  have LMc2 := Aside0.mk c2
  clear c2
  obtain ⟨y264, hy264⟩ : ∃ y_ : List (S83), y_ = (y261 ++ l0) := ⟨_, rfl⟩
  replace H : (some y264) = some r := by first | (rw [hy264]; with_reducible exact H) | (have H2_ := (Option.bind_some _ _).symm.trans H; rw [hy264]; with_reducible exact H2_) | (have H2_ := (Option.bind_some _ _).symm.trans H; with_reducible exact H2_) | with_reducible exact H | (rw [hy264]; exact H) | exact H
  have Ny264 := Aside0.mk hy264
  clear hy264
  obtain rfl := Option.some.inj H
  have hq_ := Lib.run_eql_slice_nil (P := Try.prog) w 42 83 (some a0_) l0.length c0 0 0 (by kernel_rfl)
  go_enter Try.func134, Try.ntmps134
  go_wp2_with (first | ((with_reducible refine gate_dst (N := 5) rfl ?_); refine Kd.R_lit k83 _ 83 ?hg (N := 5) ?hd (xs := ([] : List (S83))) (inner := []) (ok := fun _ => True) (okp := fun _ => True) ?hr ?hp (fun _ hk => hk) trivial (Below.refl _ _) (Nat.le_refl _) (by simp) ?_; (case hd => rfl); (case hg => rfl); (case hr => first | (go_simp; done) | (go_simp; rfl)); (case hp => exact (Reps.none _ _)); intro v262 w3 ho4 hb hg_ hnew_; clear hg_ hnew_; (first | rw [← Ny261.out] at ho4 | (simp only [Int.reduceToNat] at ho4; rw [← Ny261.out] at ho4)); have HO263 := Aside0.mk (Kd.R_lower ho4 (below_size oB)); replace HB := Aside0.mk (below_step oB hb); clear hb ho4) | ((with_reducible refine gate_builtin (b := .append) (xs := #[.tmp 5, .tmp 6]) rfl ?_); at_builtin; refine Kd.R_append_rows k83 (w0 := w) w.heap.size rfl (.tmp 5) (.tmp 6) 42 83 (.agg #[(.string ⟨#[]⟩), (.int .i64 0)]) 24 rfl Try.underlying42 info83 rfl (by decide) (by omega) v262 y261 l0 _ _ _ (fun _ => True) (fun _ => False) rfl rfl ?aO ?aR (fun _ _ h => h) (fun _ h => h.elim) ?aF ?aB ?aS ?aL ?_; (case aR => repeat (first | exact (Kd.C_below HR0.out HB.out) | (with_reducible refine Kd.C_alloc ?_ _) | (with_reducible refine Kd.C_drewN ?_ _) | (with_reducible refine Kd.C_drew ?_))); (case aB => exact oB); (case aF => exact (fun _ _ => trivial)); (case aO => exact (oR HO263)); (case aS => exact (below_size oB)); (case aL => have := LMc2.out; omega); intro v265 w5 ho hb hg hat; rw [← Ny264.out] at ho; have HO266 := Aside0.mk (ho); replace HB := Aside0.mk (hb); clear HO263; clear ho hb hg hat))
  go_ret
  exact ⟨_, oE, oR HO266, oB⟩
 ·rw [if_neg c2] at H
  exact absurd H (by simp)

set_option maxHeartbeats 8000000 in
set_option maxRecDepth 100000 in
theorem slices_Clone_Ent.calls (A0 : Option Addr) (c0 : Nat) (l0 : List (S83)) (r : List (S83)) (w : World) (hr0 : Kd.C k83 w A0 l0.length l0) (hc0 : l0.length ≤ c0) (h : slices_Clone_Ent.f l0 = some r) :
  Calls Try.prog 134 #[.slice A0 l0.length c0] w fun e w' => ∃ v0_ : Value, e = .returned (v0_) ∧ Kd.R k83 83 w' w.heap.size (fun _ => True) v0_ r ∧ Below w.heap.size w w' := by
 rcases A0 with _ | a0_
 ·have hl_ : l0 = [] := by
   rcases Nat.eq_zero_or_pos l0.length with hz_ | hz_
   ·exact List.eq_nil_of_length_eq_zero hz_
   ·obtain ⟨ad_, he_, _⟩ := hr0.2.2 hz_
    cases he_
  subst hl_
  obtain rfl : r = [] := by
   simp [slices_Clone_Ent.f] at h
   exact h
  have hq_ := Lib.run_eql_slice_nil (P := Try.prog) w 42 83 none 0 c0 0 0 (by kernel_rfl)
  go_enter Try.func134, Try.ntmps134
  go_wp2
  go_ret
  exact ⟨_, rfl, Kd.R_nil _ _ _ _ _, Below.refl _ _⟩
 ·exact slices_Clone_Ent.calls_some a0_ c0 l0 r w hr0 hc0 h

/-! ### slices_Clone_Attr: function 135 -/
def slices_Clone_Attr.f (l0 : List (S85)) : Option ((List (S85))) := (some (([] : List (S85)) : List (S85))).bind fun y267 => (if y267.length + l0.length < 4398046511104 then (some (y267 ++ l0)) else (none))
set_option maxHeartbeats 8000000 in
set_option maxRecDepth 100000 in
theorem slices_Clone_Attr.calls_some (a0_ : Addr) (c0 : Nat) (l0 : List (S85)) (r : List (S85)) (w : World) (hr0 : Kd.C k85 w (some a0_) l0.length l0) (hc0 : l0.length ≤ c0) (h : slices_Clone_Attr.f l0 = some r) :
  Calls Try.prog 135 #[.slice (some a0_) l0.length c0] w fun e w' => ∃ v0_ : Value, e = .returned (v0_) ∧ Kd.R k85 85 w' w.heap.size (fun _ => True) v0_ r ∧ Below w.heap.size w w' := by
 have HR0 := Aside0.mk hr0
 have HC0 := Aside0.mk hc0
 clear hr0 hc0
 have HB := Aside0.mk (Below.refl w.heap.size w)
 unfold slices_Clone_Attr.f at h
 have H := h
 clear h
 obtain ⟨y267, hy267⟩ : ∃ y_ : List (S85), y_ = (([] : List (S85))) := ⟨_, rfl⟩
 replace H : (if y267.length + l0.length < 4398046511104 then (some (y267 ++ l0)) else (none)) = some r := by first | (rw [hy267]; with_reducible exact H) | (have H2_ := (Option.bind_some _ _).symm.trans H; rw [hy267]; with_reducible exact H2_) | (have H2_ := (Option.bind_some _ _).symm.trans H; with_reducible exact H2_) | with_reducible exact H | (rw [hy267]; exact H) | exact H
 have Ny267 := Aside0.mk hy267
 clear hy267
 by_cases c2 : y267.length + l0.length < 4398046511104
 ·rw [if_pos c2] at H
  have LMc2 := Aside0.mk c2
  clear c2
  obtain ⟨y270, hy270⟩ : ∃ y_ : List (S85), y_ = (y267 ++ l0) := ⟨_, rfl⟩
  replace H : (some y270) = some r := by first | (rw [hy270]; with_reducible exact H) | (have H2_ := (Option.bind_some _ _).symm.trans H; rw [hy270]; with_reducible exact H2_) | (have H2_ := (Option.bind_some _ _).symm.trans H; with_reducible exact H2_) | with_reducible exact H | (rw [hy270]; exact H) | exact H
  have Ny270 := Aside0.mk hy270
  clear hy270
  obtain rfl := Option.some.inj H
  have hq_ := Lib.run_eql_slice_nil (P := Try.prog) w 43 85 (some a0_) l0.length c0 0 0 (by kernel_rfl)
  go_enter Try.func135, Try.ntmps135
  go_wp2_with (first | ((with_reducible refine gate_dst (N := 5) rfl ?_); refine Kd.R_lit k85 _ 85 ?hg (N := 5) ?hd (xs := ([] : List (S85))) (inner := []) (ok := fun _ => True) (okp := fun _ => True) ?hr ?hp (fun _ hk => hk) trivial (Below.refl _ _) (Nat.le_refl _) (by simp) ?_; (case hd => rfl); (case hg => rfl); (case hr => first | (go_simp; done) | (go_simp; rfl)); (case hp => exact (Reps.none _ _)); intro v268 w3 ho4 hb hg_ hnew_; clear hg_ hnew_; (first | rw [← Ny267.out] at ho4 | (simp only [Int.reduceToNat] at ho4; rw [← Ny267.out] at ho4)); have HO269 := Aside0.mk (Kd.R_lower ho4 (below_size oB)); replace HB := Aside0.mk (below_step oB hb); clear hb ho4) | ((with_reducible refine gate_builtin (b := .append) (xs := #[.tmp 5, .tmp 6]) rfl ?_); at_builtin; refine Kd.R_append_rows k85 (w0 := w) w.heap.size rfl (.tmp 5) (.tmp 6) 43 85 (.agg #[(.string ⟨#[]⟩), (.string ⟨#[]⟩)]) 32 rfl Try.underlying43 info85 rfl (by decide) (by omega) v268 y267 l0 _ _ _ (fun _ => True) (fun _ => False) rfl rfl ?aO ?aR (fun _ _ h => h) (fun _ h => h.elim) ?aF ?aB ?aS ?aL ?_; (case aR => repeat (first | exact (Kd.C_below HR0.out HB.out) | (with_reducible refine Kd.C_alloc ?_ _) | (with_reducible refine Kd.C_drewN ?_ _) | (with_reducible refine Kd.C_drew ?_))); (case aB => exact oB); (case aF => exact (fun _ _ => trivial)); (case aO => exact (oR HO269)); (case aS => exact (below_size oB)); (case aL => have := LMc2.out; omega); intro v271 w5 ho hb hg hat; rw [← Ny270.out] at ho; have HO272 := Aside0.mk (ho); replace HB := Aside0.mk (hb); clear HO269; clear ho hb hg hat))
  go_ret
  exact ⟨_, oE, oR HO272, oB⟩
 ·rw [if_neg c2] at H
  exact absurd H (by simp)

set_option maxHeartbeats 8000000 in
set_option maxRecDepth 100000 in
theorem slices_Clone_Attr.calls (A0 : Option Addr) (c0 : Nat) (l0 : List (S85)) (r : List (S85)) (w : World) (hr0 : Kd.C k85 w A0 l0.length l0) (hc0 : l0.length ≤ c0) (h : slices_Clone_Attr.f l0 = some r) :
  Calls Try.prog 135 #[.slice A0 l0.length c0] w fun e w' => ∃ v0_ : Value, e = .returned (v0_) ∧ Kd.R k85 85 w' w.heap.size (fun _ => True) v0_ r ∧ Below w.heap.size w w' := by
 rcases A0 with _ | a0_
 ·have hl_ : l0 = [] := by
   rcases Nat.eq_zero_or_pos l0.length with hz_ | hz_
   ·exact List.eq_nil_of_length_eq_zero hz_
   ·obtain ⟨ad_, he_, _⟩ := hr0.2.2 hz_
    cases he_
  subst hl_
  obtain rfl : r = [] := by
   simp [slices_Clone_Attr.f] at h
   exact h
  have hq_ := Lib.run_eql_slice_nil (P := Try.prog) w 43 85 none 0 c0 0 0 (by kernel_rfl)
  go_enter Try.func135, Try.ntmps135
  go_wp2
  go_ret
  exact ⟨_, rfl, Kd.R_nil _ _ _ _ _, Below.refl _ _⟩
 ·exact slices_Clone_Attr.calls_some a0_ c0 l0 r w hr0 hc0 h

/-! ### impl_copyInode: function 104 -/
def impl_copyInode.f (a0_0 : Int) (a0_1 : Int) (a0_2 : Int) (l0_3 : List Int) (l0_4 : List (S83)) (l0_5 : List (S85)) : Option (Int × Int × Int × List Int × (List (S83)) × (List (S85))) := (slices_Clone_byte_byte.f l0_3).bind fun t275 => ((slices_Clone_Ent.f l0_4).bind fun t278 => ((slices_Clone_Attr.f l0_5).bind fun t281 => (some (a0_0, a0_1, a0_2, t275, t278, t281))))
set_option maxHeartbeats 8000000 in
set_option maxRecDepth 100000 in
theorem impl_copyInode.calls (a0_0 : Int) (a0_1 : Int) (a0_2 : Int) (A0_3 : Option Addr) (c0_3 : Nat) (l0_3 : List Int) (A0_4 : Option Addr) (c0_4 : Nat) (l0_4 : List (S83)) (A0_5 : Option Addr) (c0_5 : Nat) (l0_5 : List (S85)) (r1 : Int) (r2 : Int) (r3 : Int) (r4 : List Int) (r5 : List (S83)) (r6 : List (S85)) (w : World) (hr0_3 : Kd.C (Kd.int .u8) w A0_3 l0_3.length l0_3) (hc0_3 : l0_3.length ≤ c0_3) (hr0_4 : Kd.C k83 w A0_4 l0_4.length l0_4) (hc0_4 : l0_4.length ≤ c0_4) (hr0_5 : Kd.C k85 w A0_5 l0_5.length l0_5) (hc0_5 : l0_5.length ≤ c0_5) (h : impl_copyInode.f a0_0 a0_1 a0_2 l0_3 l0_4 l0_5 = some (r1, r2, r3, r4, r5, r6)) :
  Calls Try.prog 104 #[.agg #[.int .i64 a0_0, .int .i64 a0_1, .int .i64 a0_2, .slice A0_3 l0_3.length c0_3, .slice A0_4 l0_4.length c0_4, .slice A0_5 l0_5.length c0_5]] w fun e w' => ∃ v3_ v4_ v5_ : Value, e = .returned (.agg #[.int .i64 r1, .int .i64 r2, .int .i64 r3, v3_, v4_, v5_]) ∧ Kd.R (Kd.int .u8) 5 w' w.heap.size (fun _ => True) v3_ r4 ∧ Kd.R k83 83 w' w.heap.size (fun _ => True) v4_ r5 ∧ Kd.R k85 85 w' w.heap.size (fun _ => True) v5_ r6 ∧ Below w.heap.size w w' := by
 have hu45 := Try.underlying45
 have HR0_3 := Aside0.mk hr0_3
 have HC0_3 := Aside0.mk hc0_3
 clear hr0_3 hc0_3
 have HR0_4 := Aside0.mk hr0_4
 have HC0_4 := Aside0.mk hc0_4
 clear hr0_4 hc0_4
 have HR0_5 := Aside0.mk hr0_5
 have HC0_5 := Aside0.mk hc0_5
 clear hr0_5 hc0_5
 have HB := Aside0.mk (Below.refl w.heap.size w)
 unfold impl_copyInode.f at h
 have H := h
 clear h
 replace H := bA H
 obtain ⟨t275, A2, H⟩ := H
 try dsimp only at H
 replace H := bA H
 obtain ⟨t278, A3, H⟩ := H
 try dsimp only at H
 replace H := bA H
 obtain ⟨t281, A4, H⟩ := H
 try dsimp only at H
 simp only [Option.some.injEq, Prod.mk.injEq] at H
 obtain ⟨rfl, rfl, rfl, rfl, rfl, rfl⟩ := H
 go_enter Try.func104, Try.ntmps104
 go_wp2_with (first | ((with_reducible refine gate_dst (N := 1) rfl ?_); refine bx_ 1 #[.int .i64 a0_0, .int .i64 a0_1, .int .i64 a0_2, .slice A0_3 l0_3.length c0_3, .slice A0_4 l0_4.length c0_4, .slice A0_5 l0_5.length c0_5] 45 ?_; intro gb273 hg w5 hbox hb; have BK273 := Aside0.mk (hbox); have GW273 := gs_ hg; have GE273 := gs_ hg; replace HB := Aside0.mk (below_step oB hb); clear hb hbox hg) | ((with_reducible refine gate_dst (N := 2) rfl ?_); refine bx_ 2 #[.int .i64 0, .int .i64 0, .int .i64 0, .slice none 0 0, .slice none 0 0, .slice none 0 0] 45 ?_; intro gb274 hg w6 hbox hb; have BK274 := Aside0.mk (hbox); have GW274 := gs_ hg; have GE274 := gs_ hg; have NB273_274 := nl_ hg BK273; have NB274_273 := nr_ hg BK273; replace BK273 := kb_ BK273 hb; replace HB := Aside0.mk (below_step oB hb); clear hb hbox hg; have hnb7 := NB273_274.out; have hnc7 := NB274_273.out; obtain ⟨⟨_, _, _, _, _, _⟩, _, _, _, _, _, _⟩ := z6 BK273) | ((with_reducible refine gate_callee (f := 131) rfl ?_); refine gl_ 5 Try.func131 (slices_Clone_byte_byte.calls _ _ l0_3 t275 _ (kC HR0_3) HC0_3.out A2.out) ?_; rintro e w9 ⟨v276, rfl, ho0, hb⟩; refine ⟨_, rfl, ?_⟩; have HO277 := Aside0.mk (Kd.R_lower ho0 (below_size oB)); replace BK273 := kb_ BK273 hb; replace BK274 := kb_ BK274 hb; replace HB := Aside0.mk (below_step oB hb); obtain ⟨Ao10, co10, eo10⟩ := Kd.R_slice HO277.out; subst eo10; obtain ⟨⟨_, _, _, _, _, _⟩, _, _, _, _, _, _⟩ := z6 BK273) | ((with_reducible refine gate_callee (f := 134) rfl ?_); refine gl_ 9 Try.func134 (slices_Clone_Ent.calls _ _ l0_4 t278 _ ?side1 HC0_4.out A3.out) ?_; (case side1 => exact Kd.C_below HR0_4.out oB); rintro e w12 ⟨v279, rfl, ho0, hb⟩; refine ⟨_, rfl, ?_⟩; have HO280 := Aside0.mk (Kd.R_lower ho0 (below_size oB)); replace HO277 := Aside0.mk (Kd.R_below (by (with_reducible repeat (first | apply Kd.R_alloc | apply Kd.R_drewN | apply Kd.R_drew)); exact (Kd.R_mono (Kd.R_far (p := ⟨gb273, 3, none⟩) (Kd.R_types HO277.out BK273.out (by decide)) (fun _ hk => hk.2) (.slice Ao10 t275.length co10)) (fun _ h_ => h_.1))) hb); replace BK273 := Aside0.mk (blk_below (g := gb273) (o := .cells #[.int .i64 a0_0, .int .i64 a0_1, .int .i64 a0_2, .slice Ao10 t275.length co10, .slice A0_4 l0_4.length c0_4, .slice A0_5 l0_5.length c0_5] 45 (0, 0)) (by (with_reducible repeat (first | refine blk_drewN ?_ _ | refine blk_drew ?_ | refine blk_alloc ?_ _)); refine blk_put (cs := #[.int .i64 a0_0, .int .i64 a0_1, .int .i64 a0_2, .slice A0_3 l0_3.length c0_3, .slice A0_4 l0_4.length c0_4, .slice A0_5 l0_5.length c0_5]) ?_ 3 _ rfl; (with_reducible repeat (first | refine blk_drewN ?_ _ | refine blk_drew ?_ | refine blk_alloc ?_ _)); exact BK273.out) hb); replace BK274 := Aside0.mk (blk_below (g := gb274) (o := .cells #[.int .i64 0, .int .i64 0, .int .i64 0, .slice none 0 0, .slice none 0 0, .slice none 0 0] 45 (0, 0)) (by (with_reducible repeat (first | refine blk_drewN ?_ _ | refine blk_drew ?_ | refine blk_alloc ?_ _)); refine blk_far ?_ NB274_273.out _; (with_reducible repeat (first | refine blk_drewN ?_ _ | refine blk_drew ?_ | refine blk_alloc ?_ _)); exact BK274.out) hb); replace HB := Aside0.mk (below_step oB hb); (try clear hk); obtain ⟨Ao13, co13, eo13⟩ := Kd.R_slice HO280.out; subst eo13; obtain ⟨⟨_, _, _, _, _, _⟩, _, _, _, _, _, _⟩ := z6 BK273) | ((with_reducible refine gate_callee (f := 135) rfl ?_); refine gl_ 13 Try.func135 (slices_Clone_Attr.calls _ _ l0_5 t281 _ ?side1 HC0_5.out A4.out) ?_; (case side1 => exact Kd.C_below HR0_5.out oB); rintro e w15 ⟨v282, rfl, ho0, hb⟩; refine ⟨_, rfl, ?_⟩; have HO283 := Aside0.mk (Kd.R_lower ho0 (below_size oB)); replace HO277 := Aside0.mk (Kd.R_below (by (with_reducible repeat (first | apply Kd.R_alloc | apply Kd.R_drewN | apply Kd.R_drew)); exact (Kd.R_mono (Kd.R_far (p := ⟨gb273, 4, none⟩) (Kd.R_types HO277.out BK273.out (by decide)) (fun _ hk => hk.2) (.slice Ao13 t278.length co13)) (fun _ h_ => h_.1))) hb); replace HO280 := Aside0.mk (Kd.R_below (by (with_reducible repeat (first | apply Kd.R_alloc | apply Kd.R_drewN | apply Kd.R_drew)); exact (Kd.R_mono (Kd.R_far (p := ⟨gb273, 4, none⟩) (Kd.R_types HO280.out BK273.out (by decide)) (fun _ hk => hk.2) (.slice Ao13 t278.length co13)) (fun _ h_ => h_.1))) hb); replace BK273 := Aside0.mk (blk_below (g := gb273) (o := .cells #[.int .i64 a0_0, .int .i64 a0_1, .int .i64 a0_2, .slice Ao10 t275.length co10, .slice Ao13 t278.length co13, .slice A0_5 l0_5.length c0_5] 45 (0, 0)) (by (with_reducible repeat (first | refine blk_drewN ?_ _ | refine blk_drew ?_ | refine blk_alloc ?_ _)); refine blk_put (cs := #[.int .i64 a0_0, .int .i64 a0_1, .int .i64 a0_2, .slice Ao10 t275.length co10, .slice A0_4 l0_4.length c0_4, .slice A0_5 l0_5.length c0_5]) ?_ 4 _ rfl; (with_reducible repeat (first | refine blk_drewN ?_ _ | refine blk_drew ?_ | refine blk_alloc ?_ _)); exact BK273.out) hb); replace BK274 := Aside0.mk (blk_below (g := gb274) (o := .cells #[.int .i64 0, .int .i64 0, .int .i64 0, .slice none 0 0, .slice none 0 0, .slice none 0 0] 45 (0, 0)) (by (with_reducible repeat (first | refine blk_drewN ?_ _ | refine blk_drew ?_ | refine blk_alloc ?_ _)); refine blk_far ?_ NB274_273.out _; (with_reducible repeat (first | refine blk_drewN ?_ _ | refine blk_drew ?_ | refine blk_alloc ?_ _)); exact BK274.out) hb); replace HB := Aside0.mk (below_step oB hb); (try clear hk); obtain ⟨Ao16, co16, eo16⟩ := Kd.R_slice HO283.out; subst eo16; obtain ⟨⟨_, _, _, _, _, _⟩, _, _, _, _, _, _⟩ := z6 BK273; obtain ⟨⟨_, _, _, _, _, _⟩, _, _, _, _, _, _⟩ := z6 BK274))
 refine bodyPost_ret (results_cell_row rfl _ _ gb274 45 #[.int .i64 a0_0, .int .i64 a0_1, .int .i64 a0_2, .slice Ao10 t275.length co10, .slice Ao13 t278.length co13, .slice Ao16 t281.length co16] (0, 0) _ rfl (by (with_reducible repeat (first | refine blk_drewN ?_ _ | refine blk_drew ?_ | refine blk_alloc ?_ _)); refine blk_put (cs := #[.int .i64 a0_0, .int .i64 a0_1, .int .i64 a0_2, .slice Ao10 t275.length co10, .slice Ao13 t278.length co13, .slice none 0 0]) ?_ 5 _ rfl; (with_reducible repeat (first | refine blk_drewN ?_ _ | refine blk_drew ?_ | refine blk_alloc ?_ _)); refine blk_put (cs := #[.int .i64 a0_0, .int .i64 a0_1, .int .i64 a0_2, .slice Ao10 t275.length co10, .slice none 0 0, .slice none 0 0]) ?_ 4 _ rfl; (with_reducible repeat (first | refine blk_drewN ?_ _ | refine blk_drew ?_ | refine blk_alloc ?_ _)); refine blk_put (cs := #[.int .i64 a0_0, .int .i64 a0_1, .int .i64 a0_2, .slice none 0 0, .slice none 0 0, .slice none 0 0]) ?_ 3 _ rfl; (with_reducible repeat (first | refine blk_drewN ?_ _ | refine blk_drew ?_ | refine blk_alloc ?_ _)); refine blk_put (cs := #[.int .i64 a0_0, .int .i64 a0_1, .int .i64 0, .slice none 0 0, .slice none 0 0, .slice none 0 0]) ?_ 2 _ rfl; (with_reducible repeat (first | refine blk_drewN ?_ _ | refine blk_drew ?_ | refine blk_alloc ?_ _)); refine blk_put (cs := #[.int .i64 a0_0, .int .i64 0, .int .i64 0, .slice none 0 0, .slice none 0 0, .slice none 0 0]) ?_ 1 _ rfl; (with_reducible repeat (first | refine blk_drewN ?_ _ | refine blk_drew ?_ | refine blk_alloc ?_ _)); refine blk_put (cs := #[.int .i64 0, .int .i64 0, .int .i64 0, .slice none 0 0, .slice none 0 0, .slice none 0 0]) ?_ 0 _ rfl; (with_reducible repeat (first | refine blk_drewN ?_ _ | refine blk_drew ?_ | refine blk_alloc ?_ _)); refine blk_far ?_ NB274_273.out _; (with_reducible repeat (first | refine blk_drewN ?_ _ | refine blk_drew ?_ | refine blk_alloc ?_ _)); exact BK274.out) Try.underlying45 rfl (by kernel_rfl)) rfl ?_
 exact ⟨_, _, _, oE, by (with_reducible repeat (first | apply Kd.R_alloc | apply Kd.R_drewN | apply Kd.R_drew)); exact Kd.R_mono (Kd.R_far (p := ⟨gb274, 5, none⟩) (Kd.R_far (p := ⟨gb274, 4, none⟩) (Kd.R_far (p := ⟨gb274, 3, none⟩) (Kd.R_far (p := ⟨gb274, 2, none⟩) (Kd.R_far (p := ⟨gb274, 1, none⟩) (Kd.R_far (p := ⟨gb274, 0, none⟩) (Kd.R_far (p := ⟨gb273, 5, none⟩) (Kd.R_types (Kd.R_types HO277.out BK273.out (by decide)) BK274.out (by decide)) (fun _ hk => hk.1.2) (.slice Ao16 t281.length co16)) (fun _ hk => hk.2) (.int .i64 a0_0)) (fun _ hk => hk.2) (.int .i64 a0_1)) (fun _ hk => hk.2) (.int .i64 a0_2)) (fun _ hk => hk.2) (.slice Ao10 t275.length co10)) (fun _ hk => hk.2) (.slice Ao13 t278.length co13)) (fun _ hk => hk.2) (.slice Ao16 t281.length co16)) (fun _ hk => trivial), by (with_reducible repeat (first | apply Kd.R_alloc | apply Kd.R_drewN | apply Kd.R_drew)); exact Kd.R_mono (Kd.R_far (p := ⟨gb274, 5, none⟩) (Kd.R_far (p := ⟨gb274, 4, none⟩) (Kd.R_far (p := ⟨gb274, 3, none⟩) (Kd.R_far (p := ⟨gb274, 2, none⟩) (Kd.R_far (p := ⟨gb274, 1, none⟩) (Kd.R_far (p := ⟨gb274, 0, none⟩) (Kd.R_far (p := ⟨gb273, 5, none⟩) (Kd.R_types (Kd.R_types HO280.out BK273.out (by decide)) BK274.out (by decide)) (fun _ hk => hk.1.2) (.slice Ao16 t281.length co16)) (fun _ hk => hk.2) (.int .i64 a0_0)) (fun _ hk => hk.2) (.int .i64 a0_1)) (fun _ hk => hk.2) (.int .i64 a0_2)) (fun _ hk => hk.2) (.slice Ao10 t275.length co10)) (fun _ hk => hk.2) (.slice Ao13 t278.length co13)) (fun _ hk => hk.2) (.slice Ao16 t281.length co16)) (fun _ hk => trivial), by (with_reducible repeat (first | apply Kd.R_alloc | apply Kd.R_drewN | apply Kd.R_drew)); exact Kd.R_mono (Kd.R_far (p := ⟨gb274, 5, none⟩) (Kd.R_far (p := ⟨gb274, 4, none⟩) (Kd.R_far (p := ⟨gb274, 3, none⟩) (Kd.R_far (p := ⟨gb274, 2, none⟩) (Kd.R_far (p := ⟨gb274, 1, none⟩) (Kd.R_far (p := ⟨gb274, 0, none⟩) (Kd.R_far (p := ⟨gb273, 5, none⟩) (Kd.R_types (Kd.R_types HO283.out BK273.out (by decide)) BK274.out (by decide)) (fun _ hk => hk.1.2) (.slice Ao16 t281.length co16)) (fun _ hk => hk.2) (.int .i64 a0_0)) (fun _ hk => hk.2) (.int .i64 a0_1)) (fun _ hk => hk.2) (.int .i64 a0_2)) (fun _ hk => hk.2) (.slice Ao10 t275.length co10)) (fun _ hk => hk.2) (.slice Ao13 t278.length co13)) (fun _ hk => hk.2) (.slice Ao16 t281.length co16)) (fun _ hk => trivial), oB⟩

/-! ### impl_InodeAt: function 52 -/
def impl_InodeAt.f (k : Nat) (l0_0 : List (S45)) (a0_1 : Int) (a1 : Int) : Option (Int × Int × Int × List Int × (List (S83)) × (List (S85)) × Bool) := (impl_placeOf.f k l0_0 a0_1 a1).bind fun t286 => (if t286 < 0 then (some (0, 0, 0, ([] : List Int), ([] : List (S83)), ([] : List (S85)), false)) else (if 0 ≤ t286 then (if t286 < (l0_0.length : Int) then ((impl_copyInode.f ((rd_T45 l0_0 t286).f0) ((rd_T45 l0_0 t286).f1) ((rd_T45 l0_0 t286).f2) ((rd_T45 l0_0 t286).f3) ((rd_T45 l0_0 t286).f4) ((rd_T45 l0_0 t286).f5)).bind fun bt288 => (some (bt288.1, bt288.2.1, bt288.2.2.1, bt288.2.2.2.1, bt288.2.2.2.2.1, bt288.2.2.2.2.2, true))) else (none)) else (none)))
set_option maxHeartbeats 8000000 in
set_option maxRecDepth 100000 in
theorem impl_InodeAt.calls (k : Nat) (A0_0 : Option Addr) (c0_0 : Nat) (l0_0 : List (S45)) (a0_1 : Int) (a1 : Int) (r1 : Int) (r2 : Int) (r3 : Int) (r4 : List Int) (r5 : List (S83)) (r6 : List (S85)) (r7 : Bool) (w : World) (hr0_0 : Kd.C k45 w A0_0 l0_0.length l0_0) (hc0_0 : l0_0.length ≤ c0_0) (h : impl_InodeAt.f k l0_0 a0_1 a1 = some (r1, r2, r3, r4, r5, r6, r7)) :
  Calls Try.prog 52 #[.agg #[.slice A0_0 l0_0.length c0_0, .int .i64 a0_1], .int .i64 a1] w fun e w' => ∃ v3_ v4_ v5_ : Value, e = .returned (.tuple #[.agg #[.int .i64 r1, .int .i64 r2, .int .i64 r3, v3_, v4_, v5_], .bool r7]) ∧ Kd.R (Kd.int .u8) 5 w' w.heap.size (fun _ => True) v3_ r4 ∧ Kd.R k83 83 w' w.heap.size (fun _ => True) v4_ r5 ∧ Kd.R k85 85 w' w.heap.size (fun _ => True) v5_ r6 ∧ Below w.heap.size w w' := by
 have hu30 := Try.underlying30
 have hu45 := Try.underlying45
 have HR0_0 := Aside0.mk hr0_0
 have HC0_0 := Aside0.mk hc0_0
 clear hr0_0 hc0_0
 have HB := Aside0.mk (Below.refl w.heap.size w)
 unfold impl_InodeAt.f at h
 have H := h
 clear h
 replace H := bA H
 obtain ⟨t286, A3, H⟩ := H
 try dsimp only at H
 replace H := itD H
 rcases H with ⟨c4b0, H⟩ | ⟨c4b0, H⟩
 ·simp only [Option.some.injEq, Prod.mk.injEq] at H
  obtain ⟨rfl, rfl, rfl, rfl, rfl, rfl, rfl⟩ := H
  go_enter Try.func52, Try.ntmps52
  go_wp2_with (first | ((with_reducible refine gate_dst (N := 2) rfl ?_); refine bx_ 2 #[.slice A0_0 l0_0.length c0_0, .int .i64 a0_1] 30 ?_; intro gb284 hg w5 hbox hb; have BK284 := Aside0.mk (hbox); have GW284 := gs_ hg; have GE284 := gs_ hg; replace HB := Aside0.mk (below_step oB hb); clear hb hbox hg) | ((with_reducible refine gate_dst (N := 4) rfl ?_); refine bx_ 4 #[.int .i64 0, .int .i64 0, .int .i64 0, .slice none 0 0, .slice none 0 0, .slice none 0 0] 45 ?_; intro gb285 hg w6 hbox hb; have BK285 := Aside0.mk (hbox); have GW285 := gs_ hg; have GE285 := gs_ hg; have NB284_285 := nl_ hg BK284; have NB285_284 := nr_ hg BK284; replace BK284 := kb_ BK284 hb; replace HB := Aside0.mk (below_step oB hb); clear hb hbox hg; have hnb7 := NB284_285.out; have hnc7 := NB285_284.out; obtain ⟨⟨_, _⟩, _, _⟩ := z2 BK284) | ((with_reducible refine gate_callee (f := 103) rfl ?_); refine gl_ 9 Try.func103 (impl_placeOf.calls k _ _ l0_0 a0_1 a1 t286 _ (kC HR0_0) HC0_0.out A3.out) ?_; rintro e w9 ⟨rfl, hb⟩; refine ⟨_, rfl, ?_⟩; replace BK284 := kb_ BK284 hb; replace BK285 := kb_ BK285 hb; replace HB := Aside0.mk (below_step oB hb); obtain ⟨⟨_, _, _, _, _, _⟩, _, _, _, _, _, _⟩ := z6 BK285))
  refine bodyPost_ret (results_ct rfl _ _ gb285 45 #[.int .i64 0, .int .i64 0, .int .i64 0, .slice none 0 0, .slice none 0 0, .slice none 0 0] (0, 0) _ rfl (by (with_reducible repeat (first | refine blk_drewN ?_ _ | refine blk_drew ?_ | refine blk_alloc ?_ _)); refine blk_put (cs := #[.int .i64 0, .int .i64 0, .int .i64 0, .slice none 0 0, .slice none 0 0, .slice none 0 0]) ?_ 5 _ rfl; (with_reducible repeat (first | refine blk_drewN ?_ _ | refine blk_drew ?_ | refine blk_alloc ?_ _)); refine blk_put (cs := #[.int .i64 0, .int .i64 0, .int .i64 0, .slice none 0 0, .slice none 0 0, .slice none 0 0]) ?_ 4 _ rfl; (with_reducible repeat (first | refine blk_drewN ?_ _ | refine blk_drew ?_ | refine blk_alloc ?_ _)); refine blk_put (cs := #[.int .i64 0, .int .i64 0, .int .i64 0, .slice none 0 0, .slice none 0 0, .slice none 0 0]) ?_ 3 _ rfl; (with_reducible repeat (first | refine blk_drewN ?_ _ | refine blk_drew ?_ | refine blk_alloc ?_ _)); refine blk_put (cs := #[.int .i64 0, .int .i64 0, .int .i64 0, .slice none 0 0, .slice none 0 0, .slice none 0 0]) ?_ 2 _ rfl; (with_reducible repeat (first | refine blk_drewN ?_ _ | refine blk_drew ?_ | refine blk_alloc ?_ _)); refine blk_put (cs := #[.int .i64 0, .int .i64 0, .int .i64 0, .slice none 0 0, .slice none 0 0, .slice none 0 0]) ?_ 1 _ rfl; (with_reducible repeat (first | refine blk_drewN ?_ _ | refine blk_drew ?_ | refine blk_alloc ?_ _)); refine blk_put (cs := #[.int .i64 0, .int .i64 0, .int .i64 0, .slice none 0 0, .slice none 0 0, .slice none 0 0]) ?_ 0 _ rfl; (with_reducible repeat (first | refine blk_drewN ?_ _ | refine blk_drew ?_ | refine blk_alloc ?_ _)); exact BK285.out) Try.underlying45 rfl (by kernel_rfl)) rfl ?_
  exact ⟨_, _, _, oE, by first | exact Kd.R_nil _ _ _ _ _ | exact Kd.N_nil _ _ _ _ _ | exact Kd.V_nil _ _ _ _ _ | exact Kd.Q_nil _ _ _ _ _ | exact Kd.S_nil _ _ _ _ _, by first | exact Kd.R_nil _ _ _ _ _ | exact Kd.N_nil _ _ _ _ _ | exact Kd.V_nil _ _ _ _ _ | exact Kd.Q_nil _ _ _ _ _ | exact Kd.S_nil _ _ _ _ _, by first | exact Kd.R_nil _ _ _ _ _ | exact Kd.N_nil _ _ _ _ _ | exact Kd.V_nil _ _ _ _ _ | exact Kd.Q_nil _ _ _ _ _ | exact Kd.S_nil _ _ _ _ _, oB⟩
 ·replace H := itD H
  rcases H with ⟨c11b0, H⟩ | ⟨c11b0, H⟩
  ·replace H := itD H
   rcases H with ⟨c12b0, H⟩ | ⟨c12b0, H⟩
   ·replace H := bA H
    obtain ⟨⟨t288, t289, t290, t291, t294, t297⟩, A13, H⟩ := H
    try dsimp only at H
    simp only [Option.some.injEq, Prod.mk.injEq] at H
    obtain ⟨rfl, rfl, rfl, rfl, rfl, rfl, rfl⟩ := H
    go_enter Try.func52, Try.ntmps52
    go_wp2_with (first | ((with_reducible refine gate_dst (N := 2) rfl ?_); refine bx_ 2 #[.slice A0_0 l0_0.length c0_0, .int .i64 a0_1] 30 ?_; intro gb284 hg w14 hbox hb; have BK284 := Aside0.mk (hbox); have GW284 := gs_ hg; have GE284 := gs_ hg; replace HB := Aside0.mk (below_step oB hb); clear hb hbox hg) | ((with_reducible refine gate_dst (N := 4) rfl ?_); refine bx_ 4 #[.int .i64 0, .int .i64 0, .int .i64 0, .slice none 0 0, .slice none 0 0, .slice none 0 0] 45 ?_; intro gb285 hg w15 hbox hb; have BK285 := Aside0.mk (hbox); have GW285 := gs_ hg; have GE285 := gs_ hg; have NB284_285 := nl_ hg BK284; have NB285_284 := nr_ hg BK284; replace BK284 := kb_ BK284 hb; replace HB := Aside0.mk (below_step oB hb); clear hb hbox hg; have hnb16 := NB284_285.out; have hnc16 := NB285_284.out; obtain ⟨⟨_, _⟩, _, _⟩ := z2 BK284) | ((with_reducible refine gate_callee (f := 103) rfl ?_); refine gl_ 9 Try.func103 (impl_placeOf.calls k _ _ l0_0 a0_1 a1 t286 _ (kC HR0_0) HC0_0.out A3.out) ?_; rintro e w18 ⟨rfl, hb⟩; refine ⟨_, rfl, ?_⟩; replace BK284 := kb_ BK284 hb; replace BK285 := kb_ BK285 hb; replace HB := Aside0.mk (below_step oB hb); obtain ⟨⟨_, _⟩, _, _⟩ := z2 BK284; have p287 : (0 ≤ (t286 : Int)) = True := oT; have q287 : (t286 < (l0_0.length : Int)) = True := oT; obtain ⟨ad287, A287_3, c287_3, A287_4, c287_4, A287_5, c287_5, e287, hx287_0, hx287_1, hx287_2, hx287_3, hx287_4, hx287_5, hl287_3, hi287_3, hl287_4, hi287_4, hl287_5, hi287_5⟩ := at_T45 HR0_0.out t286 oa oa; cases e287; replace hx287_0 := cB HB hx287_0; replace hx287_1 := cB HB hx287_1; replace hx287_2 := cB HB hx287_2; replace hx287_3 := cB HB hx287_3; replace hx287_4 := cB HB hx287_4; replace hx287_5 := cB HB hx287_5; have HR287_3 := Aside0.mk hi287_3; have HC287_3 := Aside0.mk hl287_3; clear hi287_3 hl287_3; have HR287_4 := Aside0.mk hi287_4; have HC287_4 := Aside0.mk hl287_4; clear hi287_4 hl287_4; have HR287_5 := Aside0.mk hi287_5; have HC287_5 := Aside0.mk hl287_5; clear hi287_5 hl287_5) | ((with_reducible refine gate_callee (f := 104) rfl ?_); refine gl_ 18 Try.func104 (impl_copyInode.calls ((rd_T45 l0_0 t286).f0) ((rd_T45 l0_0 t286).f1) ((rd_T45 l0_0 t286).f2) _ _ ((rd_T45 l0_0 t286).f3) _ _ ((rd_T45 l0_0 t286).f4) _ _ ((rd_T45 l0_0 t286).f5) t288 t289 t290 t291 t294 t297 _ (kC HR287_3) HC287_3.out (kC HR287_4) HC287_4.out (kC HR287_5) HC287_5.out A13.out) ?_; rintro e w20 ⟨v292, v295, v298, rfl, ho0, ho1, ho2, hb⟩; refine ⟨_, rfl, ?_⟩; have HO293 := Aside0.mk (Kd.R_lower ho0 (below_size oB)); have HO296 := Aside0.mk (Kd.R_lower ho1 (below_size oB)); have HO299 := Aside0.mk (Kd.R_lower ho2 (below_size oB)); replace BK284 := kb_ BK284 hb; replace BK285 := kb_ BK285 hb; replace HB := Aside0.mk (below_step oB hb); (try clear ho1); (try clear ho2); obtain ⟨⟨_, _, _, _, _, _⟩, _, _, _, _, _, _⟩ := z6 BK285; obtain ⟨Ao22, co22, eo22⟩ := Kd.R_slice HO293.out; subst eo22; obtain ⟨Ao23, co23, eo23⟩ := Kd.R_slice HO296.out; subst eo23; obtain ⟨Ao24, co24, eo24⟩ := Kd.R_slice HO299.out; subst eo24))
    refine bodyPost_ret (results_ct rfl _ _ gb285 45 #[.int .i64 t288, .int .i64 t289, .int .i64 t290, .slice Ao22 t291.length co22, .slice Ao23 t294.length co23, .slice Ao24 t297.length co24] (0, 0) _ rfl (by (with_reducible repeat (first | refine blk_drewN ?_ _ | refine blk_drew ?_ | refine blk_alloc ?_ _)); refine blk_put (cs := #[.int .i64 t288, .int .i64 t289, .int .i64 t290, .slice Ao22 t291.length co22, .slice Ao23 t294.length co23, .slice none 0 0]) ?_ 5 _ rfl; (with_reducible repeat (first | refine blk_drewN ?_ _ | refine blk_drew ?_ | refine blk_alloc ?_ _)); refine blk_put (cs := #[.int .i64 t288, .int .i64 t289, .int .i64 t290, .slice Ao22 t291.length co22, .slice none 0 0, .slice none 0 0]) ?_ 4 _ rfl; (with_reducible repeat (first | refine blk_drewN ?_ _ | refine blk_drew ?_ | refine blk_alloc ?_ _)); refine blk_put (cs := #[.int .i64 t288, .int .i64 t289, .int .i64 t290, .slice none 0 0, .slice none 0 0, .slice none 0 0]) ?_ 3 _ rfl; (with_reducible repeat (first | refine blk_drewN ?_ _ | refine blk_drew ?_ | refine blk_alloc ?_ _)); refine blk_put (cs := #[.int .i64 t288, .int .i64 t289, .int .i64 0, .slice none 0 0, .slice none 0 0, .slice none 0 0]) ?_ 2 _ rfl; (with_reducible repeat (first | refine blk_drewN ?_ _ | refine blk_drew ?_ | refine blk_alloc ?_ _)); refine blk_put (cs := #[.int .i64 t288, .int .i64 0, .int .i64 0, .slice none 0 0, .slice none 0 0, .slice none 0 0]) ?_ 1 _ rfl; (with_reducible repeat (first | refine blk_drewN ?_ _ | refine blk_drew ?_ | refine blk_alloc ?_ _)); refine blk_put (cs := #[.int .i64 0, .int .i64 0, .int .i64 0, .slice none 0 0, .slice none 0 0, .slice none 0 0]) ?_ 0 _ rfl; (with_reducible repeat (first | refine blk_drewN ?_ _ | refine blk_drew ?_ | refine blk_alloc ?_ _)); exact BK285.out) Try.underlying45 rfl (by kernel_rfl)) rfl ?_
    exact ⟨_, _, _, oE, by (with_reducible repeat (first | apply Kd.R_alloc | apply Kd.R_drewN | apply Kd.R_drew)); exact Kd.R_mono (Kd.R_far (p := ⟨gb285, 5, none⟩) (Kd.R_far (p := ⟨gb285, 4, none⟩) (Kd.R_far (p := ⟨gb285, 3, none⟩) (Kd.R_far (p := ⟨gb285, 2, none⟩) (Kd.R_far (p := ⟨gb285, 1, none⟩) (Kd.R_far (p := ⟨gb285, 0, none⟩) (Kd.R_types HO293.out BK285.out (by decide)) (fun _ hk => hk.2) (.int .i64 t288)) (fun _ hk => hk.2) (.int .i64 t289)) (fun _ hk => hk.2) (.int .i64 t290)) (fun _ hk => hk.2) (.slice Ao22 t291.length co22)) (fun _ hk => hk.2) (.slice Ao23 t294.length co23)) (fun _ hk => hk.2) (.slice Ao24 t297.length co24)) (fun _ hk => trivial), by (with_reducible repeat (first | apply Kd.R_alloc | apply Kd.R_drewN | apply Kd.R_drew)); exact Kd.R_mono (Kd.R_far (p := ⟨gb285, 5, none⟩) (Kd.R_far (p := ⟨gb285, 4, none⟩) (Kd.R_far (p := ⟨gb285, 3, none⟩) (Kd.R_far (p := ⟨gb285, 2, none⟩) (Kd.R_far (p := ⟨gb285, 1, none⟩) (Kd.R_far (p := ⟨gb285, 0, none⟩) (Kd.R_types HO296.out BK285.out (by decide)) (fun _ hk => hk.2) (.int .i64 t288)) (fun _ hk => hk.2) (.int .i64 t289)) (fun _ hk => hk.2) (.int .i64 t290)) (fun _ hk => hk.2) (.slice Ao22 t291.length co22)) (fun _ hk => hk.2) (.slice Ao23 t294.length co23)) (fun _ hk => hk.2) (.slice Ao24 t297.length co24)) (fun _ hk => trivial), by (with_reducible repeat (first | apply Kd.R_alloc | apply Kd.R_drewN | apply Kd.R_drew)); exact Kd.R_mono (Kd.R_far (p := ⟨gb285, 5, none⟩) (Kd.R_far (p := ⟨gb285, 4, none⟩) (Kd.R_far (p := ⟨gb285, 3, none⟩) (Kd.R_far (p := ⟨gb285, 2, none⟩) (Kd.R_far (p := ⟨gb285, 1, none⟩) (Kd.R_far (p := ⟨gb285, 0, none⟩) (Kd.R_types HO299.out BK285.out (by decide)) (fun _ hk => hk.2) (.int .i64 t288)) (fun _ hk => hk.2) (.int .i64 t289)) (fun _ hk => hk.2) (.int .i64 t290)) (fun _ hk => hk.2) (.slice Ao22 t291.length co22)) (fun _ hk => hk.2) (.slice Ao23 t294.length co23)) (fun _ hk => hk.2) (.slice Ao24 t297.length co24)) (fun _ hk => trivial), oB⟩
   ·cases H
  ·cases H

/-! ### laws_heldByteS: function 50 -/
def laws_heldByteS.l0 : Nat → List Int → Int → Int → Option (Int)
 | 0, _, _, _ => none
 | k + 1, x0, x1, x5 => if x5 < (x0.length : Int) then (if 0 ≤ x5 then (if (rd x0 x5) = ((x1) % 256) then (laws_heldByteS.l0 k x0 (wrap64 (x1 + 1)) (wrap64 (x5 + 1))) else (some (-1))) else (none)) else (some x1)
def laws_heldByteS.f (k : Nat) (l0 : List Int) (a1 : Int) : Option (Int) := laws_heldByteS.l0 k l0 a1 0
set_option maxHeartbeats 8000000 in
set_option maxRecDepth 100000 in
theorem laws_heldByteS.calls (k : Nat) (A0 : Option Addr) (c0 : Nat) (l0 : List Int) (a1 : Int) (r : Int) (w : World) (hr0 : Kd.C (Kd.int .u8) w A0 l0.length l0) (hc0 : l0.length ≤ c0) (h : laws_heldByteS.f k l0 a1 = some r) :
  Calls Try.prog 50 #[.slice A0 l0.length c0, .int .i64 a1] w fun e w' => e = .returned (.int .i64 r) ∧ Drawn0 w w' := by
 have HR0 := Aside0.mk hr0
 have HC0 := Aside0.mk hc0
 clear hr0 hc0
 unfold laws_heldByteS.f at h
 have H := h
 clear h
 have H' := Aside0.mk H
 clear H
 go_enter Try.func50, Try.ntmps50
 go_wp2
 go_loopg [1, 5] k (fun kq v1 v5 w' => ∃ (x1_1 : Int) (x5_1 : Int), v1 = .int .i64 x1_1 ∧ v5 = .int .i64 x5_1 ∧ Aside0 (laws_heldByteS.l0 kq l0 x1_1 x5_1 = some r) ∧ Aside0 (kq ≤ k) ∧ Drawn0 w w')
 case atStart => exact ⟨(a1), (0), oS, oS, H', ⟨Nat.le_refl _⟩, oD⟩
 case round =>
  clear H'
  obtain ⟨x1_1, x5_1, rfl, rfl, HA, HK1, ⟨m1, rfl⟩⟩ := hrel
  cases gk with
  | zero => exact absurd HA.out (by simp [laws_heldByteS.l0])
  | succ k1 =>
   have H := HA.out
   clear HA
   simp only [laws_heldByteS.l0] at H
   replace H := itD H
   rcases H with ⟨c3b0, H⟩ | ⟨c3b0, H⟩
   ·replace H := itD H
    rcases H with ⟨c4b0, H⟩ | ⟨c4b0, H⟩
    ·by_cases c5 : (rd l0 x5_1) = ((x1_1) % 256)
     ·rw [if_pos c5] at H
      have c5b0 : ((rd l0 x5_1) == ((x1_1) % 256)) = true := beq_iff_eq.mpr c5
      have c5b1 : ((rd l0 x5_1) != ((x1_1) % 256)) = false := bne_eq_false_iff_eq.mpr c5
      clear c5
      have H' := Aside0.mk H
      clear H
      have p300 : (0 ≤ (x5_1 : Int)) = True := oT
      have q300 : (x5_1 < (l0.length : Int)) = True := oT
      obtain ⟨ad300, e300, hx300_0⟩ := Kd.at_int HR0.out x5_1 oa oa
      cases e300
      go_wp2
      go_roundg k1
      case measure => have := HK1.out; omega
      case rel => exact ⟨(wrap64 (x1_1 + 1)), (wrap64 (x5_1 + 1)), oS, oS, H', ⟨by have := HK1.out; omega⟩, oD⟩
     ·rw [if_neg c5] at H
      have c5b0 : ((rd l0 x5_1) == ((x1_1) % 256)) = false := beq_eq_false_iff_ne.mpr c5
      have c5b1 : ((rd l0 x5_1) != ((x1_1) % 256)) = true := bne_iff_ne.mpr c5
      obtain rfl := Option.some.inj H
      have p300 : (0 ≤ (x5_1 : Int)) = True := oT
      have q300 : (x5_1 < (l0.length : Int)) = True := oT
      obtain ⟨ad300, e300, hx300_0⟩ := Kd.at_int HR0.out x5_1 oa oa
      cases e300
      go_wp2
      go_ret
      exact ⟨oS, oD⟩
    ·cases H
   ·obtain rfl := Option.some.inj H
    go_wp2
    go_ret
    exact ⟨oS, oD⟩

/-! ### laws_heldEntS: function 105 -/
def laws_heldEntS.l0 : Nat → List (S83) → Int → Int → Option (Int)
 | 0, _, _, _ => none
 | k + 1, x0, x1, x5 => if x5 < (x0.length : Int) then (if 0 ≤ x5 then ((laws_markText.f k x1).bind fun t302 => (if ((rd_T83 x0 x5).f0).toList = t302.toList then (if ((rd_T83 x0 x5).f1) = (wrap64 (x1 + 1)) then (laws_heldEntS.l0 k x0 (wrap64 ((wrap64 (x1 + 1)) + 1)) (wrap64 (x5 + 1))) else (some (-1))) else (some (-1)))) else (none)) else (some x1)
def laws_heldEntS.f (k : Nat) (l0 : List (S83)) (a1 : Int) : Option (Int) := laws_heldEntS.l0 k l0 a1 0
def laws_heldEntS.T4 : Bool × List (List Nat × List Nat) := (true, [([], []), ([], []), ([0, 1], [0, 1]), ([2], [2]), ([3], [3]), ([], []), ([5], [5]), ([4, 6], [4, 6])])
def laws_heldEntS.B4 : List Nat := [0, 0, 3, 7, 15, 0, 32, 127]
theorem laws_heldEntS.tab4 : rtab .any (opsOf Try.f105 4) = laws_heldEntS.T4 := by kernel_rfl
theorem laws_heldEntS.bits4 : waitsOk laws_heldEntS.T4.2 laws_heldEntS.B4 = true := by kernel_rfl
set_option maxHeartbeats 8000000 in
set_option maxRecDepth 100000 in
theorem laws_heldEntS.calls (k : Nat) (A0 : Option Addr) (c0 : Nat) (l0 : List (S83)) (a1 : Int) (r : Int) (w : World) (hr0 : Kd.C k83 w A0 l0.length l0) (hc0 : l0.length ≤ c0) (h : laws_heldEntS.f k l0 a1 = some r) :
  Calls Try.prog 105 #[.slice A0 l0.length c0, .int .i64 a1] w fun e w' => e = .returned (.int .i64 r) ∧ Below w.heap.size w w' := by
 have HR0 := Aside0.mk hr0
 have HC0 := Aside0.mk hc0
 clear hr0 hc0
 have HB := Aside0.mk (Below.refl w.heap.size w)
 unfold laws_heldEntS.f at h
 have H := h
 clear h
 have H' := Aside0.mk H
 clear H
 go_enter Try.func105, Try.ntmps105
 go_wp2
 go_loopg [1, 5] k (fun kq v1 v5 w' => ∃ (x1_1 : Int) (x5_1 : Int), v1 = .int .i64 x1_1 ∧ v5 = .int .i64 x5_1 ∧ Aside0 (laws_heldEntS.l0 kq l0 x1_1 x5_1 = some r) ∧ Aside0 (kq ≤ k) ∧ Aside0 (Below w.heap.size w w'))
 case atStart => exact ⟨(a1), (0), oS, oS, H', ⟨Nat.le_refl _⟩, ⟨oB⟩⟩
 case round =>
  clear H'
  obtain ⟨x1_1, x5_1, rfl, rfl, HA, HK1, HB⟩ := hrel
  cases gk with
  | zero => exact absurd HA.out (by simp [laws_heldEntS.l0])
  | succ k1 =>
   have H := HA.out
   clear HA
   simp only [laws_heldEntS.l0] at H
   replace H := itD H
   rcases H with ⟨c3b0, H⟩ | ⟨c3b0, H⟩
   ·replace H := itD H
    rcases H with ⟨c4b0, H⟩ | ⟨c4b0, H⟩
    ·replace H := bA H
     obtain ⟨t302, A5, H⟩ := H
     try dsimp only at H
     by_cases c6 : ((rd_T83 l0 x5_1).f0).toList = t302.toList
     ·rw [if_pos c6] at H
      have c6b0 : (((rd_T83 l0 x5_1).f0).toList == t302.toList) = true := beq_iff_eq.mpr c6
      have c6b1 : (((rd_T83 l0 x5_1).f0).toList != t302.toList) = false := bne_eq_false_iff_eq.mpr c6
      clear c6
      by_cases c7 : ((rd_T83 l0 x5_1).f1) = (wrap64 (x1_1 + 1))
      ·rw [if_pos c7] at H
       have c7b0 : (((rd_T83 l0 x5_1).f1) == (wrap64 (x1_1 + 1))) = true := beq_iff_eq.mpr c7
       have c7b1 : (((rd_T83 l0 x5_1).f1) != (wrap64 (x1_1 + 1))) = false := bne_eq_false_iff_eq.mpr c7
       clear c7
       have H' := Aside0.mk H
       clear H
       try go_wp2
       replace HB := Aside0.mk (below_drew1 HB.out)
       have p301 : (0 ≤ (x5_1 : Int)) = True := oT
       have q301 : (x5_1 < (l0.length : Int)) = True := oT
       obtain ⟨ad301, e301, hx301_0, hx301_1⟩ := at_T83 HR0.out x5_1 oa oa
       have hw301_1 := hx301_1
       have hw301_0 := hx301_0
       cases e301
       replace hx301_0 := cB HB hx301_0
       replace hx301_1 := cB HB hx301_1
       refine st_ 8 (fun w' => w'.cell? (ad301.add ((x5_1).toNat * 2)) = some (.string ((rd_T83 l0 x5_1).f0)) ∧ w'.cell? ⟨(ad301.add ((x5_1).toNat * 2)).block, (ad301.add ((x5_1).toNat * 2)).off + 1, none⟩ = some (.int .i64 ((rd_T83 l0 x5_1).f1))) laws_heldEntS.tab4 laws_heldEntS.bits4 oH (fun hHeld HT_ HW_ => ?_)
       generalize wr.drew = w8 at HB hx301_0 hx301_1 hHeld ⊢
       refine pu_ 0 12 HT_ ?_
       refine pu_ 1 13 HT_ ?_
       refine pu_ 2 14 HT_ ?_
       refine pu_ 3 15 HT_ ?_
       refine pu_ 5 17 HT_ ?_
       refine ta_ 4 16 HT_ HW_ hHeld ?_
       refine on_ 6 18 HT_ (fun K hK => ?_)
       refine gr_ 18 Try.func132 (laws_markText.calls k1 x1_1 t302 _ A5.out) ?_
       rintro e w9 ⟨rfl, hb⟩
       refine ⟨_, rfl, ?_⟩
       replace HB := Aside0.mk (below_step oB hb)
       refine hk_ hK 18 oH (fun hHeld => ?_)
       clear hK K
       refine pu_ 7 19 HT_ ?_
       refine dn_ HT_ ?_
       have p303 : (0 ≤ (x5_1 : Int)) = True := oT
       have q303 : (x5_1 < (l0.length : Int)) = True := oT
       obtain ⟨ad303, e303, hx303_0, hx303_1⟩ := at_T83 HR0.out x5_1 oa oa
       obtain rfl : ad301 = ad303 := (by injection e303)
       replace hx303_0 := cB HB hx303_0
       replace hx303_1 := cB HB hx303_1
       try go_wp2
       go_roundg k1
       case measure => have := HK1.out; omega
       case rel => exact ⟨(wrap64 ((wrap64 (x1_1 + 1)) + 1)), (wrap64 (x5_1 + 1)), oS, oS, H', ⟨by have := HK1.out; omega⟩, ⟨oB⟩⟩
      ·rw [if_neg c7] at H
       have c7b0 : (((rd_T83 l0 x5_1).f1) == (wrap64 (x1_1 + 1))) = false := beq_eq_false_iff_ne.mpr c7
       have c7b1 : (((rd_T83 l0 x5_1).f1) != (wrap64 (x1_1 + 1))) = true := bne_iff_ne.mpr c7
       obtain rfl := Option.some.inj H
       try go_wp2
       replace HB := Aside0.mk (below_drew1 HB.out)
       have p301 : (0 ≤ (x5_1 : Int)) = True := oT
       have q301 : (x5_1 < (l0.length : Int)) = True := oT
       obtain ⟨ad301, e301, hx301_0, hx301_1⟩ := at_T83 HR0.out x5_1 oa oa
       have hw301_1 := hx301_1
       have hw301_0 := hx301_0
       cases e301
       replace hx301_0 := cB HB hx301_0
       replace hx301_1 := cB HB hx301_1
       refine st_ 8 (fun w' => w'.cell? (ad301.add ((x5_1).toNat * 2)) = some (.string ((rd_T83 l0 x5_1).f0)) ∧ w'.cell? ⟨(ad301.add ((x5_1).toNat * 2)).block, (ad301.add ((x5_1).toNat * 2)).off + 1, none⟩ = some (.int .i64 ((rd_T83 l0 x5_1).f1))) laws_heldEntS.tab4 laws_heldEntS.bits4 oH (fun hHeld HT_ HW_ => ?_)
       generalize wr.drew = w10 at HB hx301_0 hx301_1 hHeld ⊢
       refine pu_ 0 12 HT_ ?_
       refine pu_ 1 13 HT_ ?_
       refine pu_ 2 14 HT_ ?_
       refine pu_ 3 15 HT_ ?_
       refine pu_ 5 17 HT_ ?_
       refine ta_ 4 16 HT_ HW_ hHeld ?_
       refine on_ 6 18 HT_ (fun K hK => ?_)
       refine gr_ 18 Try.func132 (laws_markText.calls k1 x1_1 t302 _ A5.out) ?_
       rintro e w11 ⟨rfl, hb⟩
       refine ⟨_, rfl, ?_⟩
       replace HB := Aside0.mk (below_step oB hb)
       refine hk_ hK 18 oH (fun hHeld => ?_)
       clear hK K
       refine pu_ 7 19 HT_ ?_
       refine dn_ HT_ ?_
       have p303 : (0 ≤ (x5_1 : Int)) = True := oT
       have q303 : (x5_1 < (l0.length : Int)) = True := oT
       obtain ⟨ad303, e303, hx303_0, hx303_1⟩ := at_T83 HR0.out x5_1 oa oa
       obtain rfl : ad301 = ad303 := (by injection e303)
       replace hx303_0 := cB HB hx303_0
       replace hx303_1 := cB HB hx303_1
       try go_wp2
       go_ret
       exact ⟨oE, oB⟩
     ·rw [if_neg c6] at H
      have c6b0 : (((rd_T83 l0 x5_1).f0).toList == t302.toList) = false := beq_eq_false_iff_ne.mpr c6
      have c6b1 : (((rd_T83 l0 x5_1).f0).toList != t302.toList) = true := bne_iff_ne.mpr c6
      obtain rfl := Option.some.inj H
      try go_wp2
      replace HB := Aside0.mk (below_drew1 HB.out)
      have p301 : (0 ≤ (x5_1 : Int)) = True := oT
      have q301 : (x5_1 < (l0.length : Int)) = True := oT
      obtain ⟨ad301, e301, hx301_0, hx301_1⟩ := at_T83 HR0.out x5_1 oa oa
      have hw301_1 := hx301_1
      have hw301_0 := hx301_0
      cases e301
      replace hx301_0 := cB HB hx301_0
      replace hx301_1 := cB HB hx301_1
      refine st_ 8 (fun w' => w'.cell? (ad301.add ((x5_1).toNat * 2)) = some (.string ((rd_T83 l0 x5_1).f0)) ∧ w'.cell? ⟨(ad301.add ((x5_1).toNat * 2)).block, (ad301.add ((x5_1).toNat * 2)).off + 1, none⟩ = some (.int .i64 ((rd_T83 l0 x5_1).f1))) laws_heldEntS.tab4 laws_heldEntS.bits4 oH (fun hHeld HT_ HW_ => ?_)
      generalize wr.drew = w12 at HB hx301_0 hx301_1 hHeld ⊢
      refine pu_ 0 12 HT_ ?_
      refine pu_ 1 13 HT_ ?_
      refine pu_ 2 14 HT_ ?_
      refine pu_ 3 15 HT_ ?_
      refine pu_ 5 17 HT_ ?_
      refine ta_ 4 16 HT_ HW_ hHeld ?_
      refine on_ 6 18 HT_ (fun K hK => ?_)
      refine gr_ 18 Try.func132 (laws_markText.calls k1 x1_1 t302 _ A5.out) ?_
      rintro e w13 ⟨rfl, hb⟩
      refine ⟨_, rfl, ?_⟩
      replace HB := Aside0.mk (below_step oB hb)
      refine hk_ hK 18 oH (fun hHeld => ?_)
      clear hK K
      refine pu_ 7 19 HT_ ?_
      refine dn_ HT_ ?_
      try go_wp2
      go_ret
      exact ⟨oE, oB⟩
    ·cases H
   ·obtain rfl := Option.some.inj H
    go_wp2
    go_ret
    exact ⟨oE, oB⟩

/-! ### laws_heldAttrS: function 106 -/
def laws_heldAttrS.l0 : Nat → List (S85) → Int → Int → Option (Int)
 | 0, _, _, _ => none
 | k + 1, x0, x1, x5 => if x5 < (x0.length : Int) then (if 0 ≤ x5 then ((laws_markText.f k x1).bind fun t305 => (if ((rd_T85 x0 x5).f0).toList = t305.toList then ((laws_markText.f k (wrap64 (x1 + 1))).bind fun t307 => (if ((rd_T85 x0 x5).f1).toList = t307.toList then (laws_heldAttrS.l0 k x0 (wrap64 ((wrap64 (x1 + 1)) + 1)) (wrap64 (x5 + 1))) else (some (-1)))) else (some (-1)))) else (none)) else (some x1)
def laws_heldAttrS.f (k : Nat) (l0 : List (S85)) (a1 : Int) : Option (Int) := laws_heldAttrS.l0 k l0 a1 0
def laws_heldAttrS.T4 : Bool × List (List Nat × List Nat) := (true, [([], []), ([], []), ([0, 1], [0, 1]), ([2], [2]), ([3], [3]), ([], []), ([5], [5]), ([4, 6], [4, 6])])
def laws_heldAttrS.B4 : List Nat := [0, 0, 3, 7, 15, 0, 32, 127]
theorem laws_heldAttrS.tab4 : rtab .any (opsOf Try.f106 4) = laws_heldAttrS.T4 := by kernel_rfl
theorem laws_heldAttrS.bits4 : waitsOk laws_heldAttrS.T4.2 laws_heldAttrS.B4 = true := by kernel_rfl
def laws_heldAttrS.T7 : Bool × List (List Nat × List Nat) := (true, [([], []), ([], []), ([0, 1], [0, 1]), ([2], [2]), ([3], [3]), ([], []), ([5], [5]), ([4, 6], [4, 6])])
def laws_heldAttrS.B7 : List Nat := [0, 0, 3, 7, 15, 0, 32, 127]
theorem laws_heldAttrS.tab7 : rtab .any (opsOf Try.f106 7) = laws_heldAttrS.T7 := by kernel_rfl
theorem laws_heldAttrS.bits7 : waitsOk laws_heldAttrS.T7.2 laws_heldAttrS.B7 = true := by kernel_rfl
set_option maxHeartbeats 8000000 in
set_option maxRecDepth 100000 in
theorem laws_heldAttrS.calls (k : Nat) (A0 : Option Addr) (c0 : Nat) (l0 : List (S85)) (a1 : Int) (r : Int) (w : World) (hr0 : Kd.C k85 w A0 l0.length l0) (hc0 : l0.length ≤ c0) (h : laws_heldAttrS.f k l0 a1 = some r) :
  Calls Try.prog 106 #[.slice A0 l0.length c0, .int .i64 a1] w fun e w' => e = .returned (.int .i64 r) ∧ Below w.heap.size w w' := by
 have HR0 := Aside0.mk hr0
 have HC0 := Aside0.mk hc0
 clear hr0 hc0
 have HB := Aside0.mk (Below.refl w.heap.size w)
 unfold laws_heldAttrS.f at h
 have H := h
 clear h
 have H' := Aside0.mk H
 clear H
 go_enter Try.func106, Try.ntmps106
 go_wp2
 go_loopg [1, 5] k (fun kq v1 v5 w' => ∃ (x1_1 : Int) (x5_1 : Int), v1 = .int .i64 x1_1 ∧ v5 = .int .i64 x5_1 ∧ Aside0 (laws_heldAttrS.l0 kq l0 x1_1 x5_1 = some r) ∧ Aside0 (kq ≤ k) ∧ Aside0 (Below w.heap.size w w'))
 case atStart => exact ⟨(a1), (0), oS, oS, H', ⟨Nat.le_refl _⟩, ⟨oB⟩⟩
 case round =>
  clear H'
  obtain ⟨x1_1, x5_1, rfl, rfl, HA, HK1, HB⟩ := hrel
  cases gk with
  | zero => exact absurd HA.out (by simp [laws_heldAttrS.l0])
  | succ k1 =>
   have H := HA.out
   clear HA
   simp only [laws_heldAttrS.l0] at H
   replace H := itD H
   rcases H with ⟨c3b0, H⟩ | ⟨c3b0, H⟩
   ·replace H := itD H
    rcases H with ⟨c4b0, H⟩ | ⟨c4b0, H⟩
    ·replace H := bA H
     obtain ⟨t305, A5, H⟩ := H
     try dsimp only at H
     by_cases c6 : ((rd_T85 l0 x5_1).f0).toList = t305.toList
     ·rw [if_pos c6] at H
      have c6b0 : (((rd_T85 l0 x5_1).f0).toList == t305.toList) = true := beq_iff_eq.mpr c6
      have c6b1 : (((rd_T85 l0 x5_1).f0).toList != t305.toList) = false := bne_eq_false_iff_eq.mpr c6
      clear c6
      replace H := bA H
      obtain ⟨t307, A7, H⟩ := H
      try dsimp only at H
      by_cases c8 : ((rd_T85 l0 x5_1).f1).toList = t307.toList
      ·rw [if_pos c8] at H
       have c8b0 : (((rd_T85 l0 x5_1).f1).toList == t307.toList) = true := beq_iff_eq.mpr c8
       have c8b1 : (((rd_T85 l0 x5_1).f1).toList != t307.toList) = false := bne_eq_false_iff_eq.mpr c8
       clear c8
       have H' := Aside0.mk H
       clear H
       try go_wp2
       replace HB := Aside0.mk (below_drew1 HB.out)
       have p304 : (0 ≤ (x5_1 : Int)) = True := oT
       have q304 : (x5_1 < (l0.length : Int)) = True := oT
       obtain ⟨ad304, e304, hx304_0, hx304_1⟩ := at_T85 HR0.out x5_1 oa oa
       have hw304_1 := hx304_1
       have hw304_0 := hx304_0
       cases e304
       replace hx304_0 := cB HB hx304_0
       replace hx304_1 := cB HB hx304_1
       refine st_ 8 (fun w' => w'.cell? (ad304.add ((x5_1).toNat * 2)) = some (.string ((rd_T85 l0 x5_1).f0)) ∧ w'.cell? ⟨(ad304.add ((x5_1).toNat * 2)).block, (ad304.add ((x5_1).toNat * 2)).off + 1, none⟩ = some (.string ((rd_T85 l0 x5_1).f1))) laws_heldAttrS.tab4 laws_heldAttrS.bits4 oH (fun hHeld HT_ HW_ => ?_)
       generalize wr.drew = w9 at HB hx304_0 hx304_1 hHeld ⊢
       refine pu_ 0 12 HT_ ?_
       refine pu_ 1 13 HT_ ?_
       refine pu_ 2 14 HT_ ?_
       refine pu_ 3 15 HT_ ?_
       refine pu_ 5 17 HT_ ?_
       refine ta_ 4 16 HT_ HW_ hHeld ?_
       refine on_ 6 18 HT_ (fun K hK => ?_)
       refine gr_ 18 Try.func132 (laws_markText.calls k1 x1_1 t305 _ A5.out) ?_
       rintro e w10 ⟨rfl, hb⟩
       refine ⟨_, rfl, ?_⟩
       replace HB := Aside0.mk (below_step oB hb)
       refine hk_ hK 18 oH (fun hHeld => ?_)
       clear hK K
       refine pu_ 7 19 HT_ ?_
       refine dn_ HT_ ?_
       try go_wp2
       replace HB := Aside0.mk (below_drew1 HB.out)
       have p306 : (0 ≤ (x5_1 : Int)) = True := oT
       have q306 : (x5_1 < (l0.length : Int)) = True := oT
       obtain ⟨ad306, e306, hx306_0, hx306_1⟩ := at_T85 HR0.out x5_1 oa oa
       have hw306_1 := hx306_1
       have hw306_0 := hx306_0
       obtain rfl : ad304 = ad306 := (by injection e306)
       replace hx306_0 := cB HB hx306_0
       replace hx306_1 := cB HB hx306_1
       refine st_ 8 (fun w' => w'.cell? (ad304.add ((x5_1).toNat * 2)) = some (.string ((rd_T85 l0 x5_1).f0)) ∧ w'.cell? ⟨(ad304.add ((x5_1).toNat * 2)).block, (ad304.add ((x5_1).toNat * 2)).off + 1, none⟩ = some (.string ((rd_T85 l0 x5_1).f1))) laws_heldAttrS.tab7 laws_heldAttrS.bits7 oH (fun hHeld HT_ HW_ => ?_)
       generalize w10.drew = w11 at HB hx306_0 hx306_1 hHeld ⊢
       refine pu_ 0 22 HT_ ?_
       refine pu_ 1 23 HT_ ?_
       refine pu_ 2 24 HT_ ?_
       refine pu_ 3 25 HT_ ?_
       refine pu_ 5 27 HT_ ?_
       refine ta_ 4 26 HT_ HW_ hHeld ?_
       refine on_ 6 28 HT_ (fun K hK => ?_)
       refine gr_ 28 Try.func132 (laws_markText.calls k1 (wrap64 (x1_1 + 1)) t307 _ A7.out) ?_
       rintro e w12 ⟨rfl, hb⟩
       refine ⟨_, rfl, ?_⟩
       replace HB := Aside0.mk (below_step oB hb)
       refine hk_ hK 28 oH (fun hHeld => ?_)
       clear hK K
       refine pu_ 7 29 HT_ ?_
       refine dn_ HT_ ?_
       try go_wp2
       go_roundg k1
       case measure => have := HK1.out; omega
       case rel => exact ⟨(wrap64 ((wrap64 (x1_1 + 1)) + 1)), (wrap64 (x5_1 + 1)), oS, oS, H', ⟨by have := HK1.out; omega⟩, ⟨oB⟩⟩
      ·rw [if_neg c8] at H
       have c8b0 : (((rd_T85 l0 x5_1).f1).toList == t307.toList) = false := beq_eq_false_iff_ne.mpr c8
       have c8b1 : (((rd_T85 l0 x5_1).f1).toList != t307.toList) = true := bne_iff_ne.mpr c8
       obtain rfl := Option.some.inj H
       try go_wp2
       replace HB := Aside0.mk (below_drew1 HB.out)
       have p304 : (0 ≤ (x5_1 : Int)) = True := oT
       have q304 : (x5_1 < (l0.length : Int)) = True := oT
       obtain ⟨ad304, e304, hx304_0, hx304_1⟩ := at_T85 HR0.out x5_1 oa oa
       have hw304_1 := hx304_1
       have hw304_0 := hx304_0
       cases e304
       replace hx304_0 := cB HB hx304_0
       replace hx304_1 := cB HB hx304_1
       refine st_ 8 (fun w' => w'.cell? (ad304.add ((x5_1).toNat * 2)) = some (.string ((rd_T85 l0 x5_1).f0)) ∧ w'.cell? ⟨(ad304.add ((x5_1).toNat * 2)).block, (ad304.add ((x5_1).toNat * 2)).off + 1, none⟩ = some (.string ((rd_T85 l0 x5_1).f1))) laws_heldAttrS.tab4 laws_heldAttrS.bits4 oH (fun hHeld HT_ HW_ => ?_)
       generalize wr.drew = w13 at HB hx304_0 hx304_1 hHeld ⊢
       refine pu_ 0 12 HT_ ?_
       refine pu_ 1 13 HT_ ?_
       refine pu_ 2 14 HT_ ?_
       refine pu_ 3 15 HT_ ?_
       refine pu_ 5 17 HT_ ?_
       refine ta_ 4 16 HT_ HW_ hHeld ?_
       refine on_ 6 18 HT_ (fun K hK => ?_)
       refine gr_ 18 Try.func132 (laws_markText.calls k1 x1_1 t305 _ A5.out) ?_
       rintro e w14 ⟨rfl, hb⟩
       refine ⟨_, rfl, ?_⟩
       replace HB := Aside0.mk (below_step oB hb)
       refine hk_ hK 18 oH (fun hHeld => ?_)
       clear hK K
       refine pu_ 7 19 HT_ ?_
       refine dn_ HT_ ?_
       try go_wp2
       replace HB := Aside0.mk (below_drew1 HB.out)
       have p306 : (0 ≤ (x5_1 : Int)) = True := oT
       have q306 : (x5_1 < (l0.length : Int)) = True := oT
       obtain ⟨ad306, e306, hx306_0, hx306_1⟩ := at_T85 HR0.out x5_1 oa oa
       have hw306_1 := hx306_1
       have hw306_0 := hx306_0
       obtain rfl : ad304 = ad306 := (by injection e306)
       replace hx306_0 := cB HB hx306_0
       replace hx306_1 := cB HB hx306_1
       refine st_ 8 (fun w' => w'.cell? (ad304.add ((x5_1).toNat * 2)) = some (.string ((rd_T85 l0 x5_1).f0)) ∧ w'.cell? ⟨(ad304.add ((x5_1).toNat * 2)).block, (ad304.add ((x5_1).toNat * 2)).off + 1, none⟩ = some (.string ((rd_T85 l0 x5_1).f1))) laws_heldAttrS.tab7 laws_heldAttrS.bits7 oH (fun hHeld HT_ HW_ => ?_)
       generalize w14.drew = w15 at HB hx306_0 hx306_1 hHeld ⊢
       refine pu_ 0 22 HT_ ?_
       refine pu_ 1 23 HT_ ?_
       refine pu_ 2 24 HT_ ?_
       refine pu_ 3 25 HT_ ?_
       refine pu_ 5 27 HT_ ?_
       refine ta_ 4 26 HT_ HW_ hHeld ?_
       refine on_ 6 28 HT_ (fun K hK => ?_)
       refine gr_ 28 Try.func132 (laws_markText.calls k1 (wrap64 (x1_1 + 1)) t307 _ A7.out) ?_
       rintro e w16 ⟨rfl, hb⟩
       refine ⟨_, rfl, ?_⟩
       replace HB := Aside0.mk (below_step oB hb)
       refine hk_ hK 28 oH (fun hHeld => ?_)
       clear hK K
       refine pu_ 7 29 HT_ ?_
       refine dn_ HT_ ?_
       try go_wp2
       go_ret
       exact ⟨oE, oB⟩
     ·rw [if_neg c6] at H
      have c6b0 : (((rd_T85 l0 x5_1).f0).toList == t305.toList) = false := beq_eq_false_iff_ne.mpr c6
      have c6b1 : (((rd_T85 l0 x5_1).f0).toList != t305.toList) = true := bne_iff_ne.mpr c6
      obtain rfl := Option.some.inj H
      try go_wp2
      replace HB := Aside0.mk (below_drew1 HB.out)
      have p304 : (0 ≤ (x5_1 : Int)) = True := oT
      have q304 : (x5_1 < (l0.length : Int)) = True := oT
      obtain ⟨ad304, e304, hx304_0, hx304_1⟩ := at_T85 HR0.out x5_1 oa oa
      have hw304_1 := hx304_1
      have hw304_0 := hx304_0
      cases e304
      replace hx304_0 := cB HB hx304_0
      replace hx304_1 := cB HB hx304_1
      refine st_ 8 (fun w' => w'.cell? (ad304.add ((x5_1).toNat * 2)) = some (.string ((rd_T85 l0 x5_1).f0)) ∧ w'.cell? ⟨(ad304.add ((x5_1).toNat * 2)).block, (ad304.add ((x5_1).toNat * 2)).off + 1, none⟩ = some (.string ((rd_T85 l0 x5_1).f1))) laws_heldAttrS.tab4 laws_heldAttrS.bits4 oH (fun hHeld HT_ HW_ => ?_)
      generalize wr.drew = w17 at HB hx304_0 hx304_1 hHeld ⊢
      refine pu_ 0 12 HT_ ?_
      refine pu_ 1 13 HT_ ?_
      refine pu_ 2 14 HT_ ?_
      refine pu_ 3 15 HT_ ?_
      refine pu_ 5 17 HT_ ?_
      refine ta_ 4 16 HT_ HW_ hHeld ?_
      refine on_ 6 18 HT_ (fun K hK => ?_)
      refine gr_ 18 Try.func132 (laws_markText.calls k1 x1_1 t305 _ A5.out) ?_
      rintro e w18 ⟨rfl, hb⟩
      refine ⟨_, rfl, ?_⟩
      replace HB := Aside0.mk (below_step oB hb)
      refine hk_ hK 18 oH (fun hHeld => ?_)
      clear hK K
      refine pu_ 7 19 HT_ ?_
      refine dn_ HT_ ?_
      try go_wp2
      go_ret
      exact ⟨oE, oB⟩
    ·cases H
   ·obtain rfl := Option.some.inj H
    go_wp2
    go_ret
    exact ⟨oE, oB⟩

/-! ### laws_heldInode: function 53 -/
def laws_heldInode.f (k : Nat) (a0_0 : Int) (a0_1 : Int) (a0_2 : Int) (l0_3 : List Int) (l0_4 : List (S83)) (l0_5 : List (S85)) (a1 : Int) : Option (Int) := (laws_heldByteS.f k l0_3 a1).bind fun t309 => (if t309 < 0 then (some (-1)) else ((laws_heldEntS.f k l0_4 t309).bind fun t310 => (if t310 < 0 then (some (-1)) else ((laws_heldAttrS.f k l0_5 t310).bind fun t311 => (if t311 < 0 then (some (-1)) else (some t311))))))
set_option maxHeartbeats 8000000 in
set_option maxRecDepth 100000 in
theorem laws_heldInode.calls (k : Nat) (a0_0 : Int) (a0_1 : Int) (a0_2 : Int) (A0_3 : Option Addr) (c0_3 : Nat) (l0_3 : List Int) (A0_4 : Option Addr) (c0_4 : Nat) (l0_4 : List (S83)) (A0_5 : Option Addr) (c0_5 : Nat) (l0_5 : List (S85)) (a1 : Int) (r : Int) (w : World) (hr0_3 : Kd.C (Kd.int .u8) w A0_3 l0_3.length l0_3) (hc0_3 : l0_3.length ≤ c0_3) (hr0_4 : Kd.C k83 w A0_4 l0_4.length l0_4) (hc0_4 : l0_4.length ≤ c0_4) (hr0_5 : Kd.C k85 w A0_5 l0_5.length l0_5) (hc0_5 : l0_5.length ≤ c0_5) (h : laws_heldInode.f k a0_0 a0_1 a0_2 l0_3 l0_4 l0_5 a1 = some r) :
  Calls Try.prog 53 #[.agg #[.int .i64 a0_0, .int .i64 a0_1, .int .i64 a0_2, .slice A0_3 l0_3.length c0_3, .slice A0_4 l0_4.length c0_4, .slice A0_5 l0_5.length c0_5], .int .i64 a1] w fun e w' => e = .returned (.int .i64 r) ∧ Below w.heap.size w w' := by
 have hu45 := Try.underlying45
 have HR0_3 := Aside0.mk hr0_3
 have HC0_3 := Aside0.mk hc0_3
 clear hr0_3 hc0_3
 have HR0_4 := Aside0.mk hr0_4
 have HC0_4 := Aside0.mk hc0_4
 clear hr0_4 hc0_4
 have HR0_5 := Aside0.mk hr0_5
 have HC0_5 := Aside0.mk hc0_5
 clear hr0_5 hc0_5
 have HB := Aside0.mk (Below.refl w.heap.size w)
 unfold laws_heldInode.f at h
 have H := h
 clear h
 replace H := bA H
 obtain ⟨t309, A3, H⟩ := H
 try dsimp only at H
 replace H := itD H
 rcases H with ⟨c4b0, H⟩ | ⟨c4b0, H⟩
 ·obtain rfl := Option.some.inj H
  go_enter Try.func53, Try.ntmps53
  go_wp2_with (first | ((with_reducible refine gate_dst (N := 2) rfl ?_); refine bx_ 2 #[.int .i64 a0_0, .int .i64 a0_1, .int .i64 a0_2, .slice A0_3 l0_3.length c0_3, .slice A0_4 l0_4.length c0_4, .slice A0_5 l0_5.length c0_5] 45 ?_; intro gb308 hg w5 hbox hb; have BK308 := Aside0.mk (hbox); have GW308 := gs_ hg; have GE308 := gs_ hg; replace HB := Aside0.mk (below_step oB hb); clear hb hbox hg; obtain ⟨⟨_, _, _, _, _, _⟩, _, _, _, _, _, _⟩ := z6 BK308) | ((with_reducible refine gate_callee (f := 50) rfl ?_); refine gl_ 8 Try.func50 (laws_heldByteS.calls k _ _ l0_3 a1 t309 _ (kC HR0_3) HC0_3.out A3.out) ?_; rintro e w' ⟨rfl, ⟨nd, rfl⟩⟩; refine ⟨_, rfl, ?_⟩))
  go_ret
  exact ⟨oE, oB⟩
 ·replace H := bA H
  obtain ⟨t310, A7, H⟩ := H
  try dsimp only at H
  replace H := itD H
  rcases H with ⟨c8b0, H⟩ | ⟨c8b0, H⟩
  ·obtain rfl := Option.some.inj H
   go_enter Try.func53, Try.ntmps53
   go_wp2_with (first | ((with_reducible refine gate_dst (N := 2) rfl ?_); refine bx_ 2 #[.int .i64 a0_0, .int .i64 a0_1, .int .i64 a0_2, .slice A0_3 l0_3.length c0_3, .slice A0_4 l0_4.length c0_4, .slice A0_5 l0_5.length c0_5] 45 ?_; intro gb308 hg w9 hbox hb; have BK308 := Aside0.mk (hbox); have GW308 := gs_ hg; have GE308 := gs_ hg; replace HB := Aside0.mk (below_step oB hb); clear hb hbox hg; obtain ⟨⟨_, _, _, _, _, _⟩, _, _, _, _, _, _⟩ := z6 BK308) | ((with_reducible refine gate_callee (f := 50) rfl ?_); refine gl_ 8 Try.func50 (laws_heldByteS.calls k _ _ l0_3 a1 t309 _ (kC HR0_3) HC0_3.out A3.out) ?_; rintro e w' ⟨rfl, ⟨nd, rfl⟩⟩; refine ⟨_, rfl, ?_⟩) | ((with_reducible refine gate_callee (f := 105) rfl ?_); refine gl_ 14 Try.func105 (laws_heldEntS.calls k _ _ l0_4 t309 t310 _ (kC HR0_4) HC0_4.out A7.out) ?_; rintro e w11 ⟨rfl, hb⟩; refine ⟨_, rfl, ?_⟩; replace BK308 := kb_ BK308 hb; replace HB := Aside0.mk (below_step oB hb)))
   go_ret
   exact ⟨oE, oB⟩
  ·replace H := bA H
   obtain ⟨t311, A12, H⟩ := H
   try dsimp only at H
   replace H := itD H
   rcases H with ⟨c13b0, H⟩ | ⟨c13b0, H⟩
   ·obtain rfl := Option.some.inj H
    go_enter Try.func53, Try.ntmps53
    go_wp2_with (first | ((with_reducible refine gate_dst (N := 2) rfl ?_); refine bx_ 2 #[.int .i64 a0_0, .int .i64 a0_1, .int .i64 a0_2, .slice A0_3 l0_3.length c0_3, .slice A0_4 l0_4.length c0_4, .slice A0_5 l0_5.length c0_5] 45 ?_; intro gb308 hg w14 hbox hb; have BK308 := Aside0.mk (hbox); have GW308 := gs_ hg; have GE308 := gs_ hg; replace HB := Aside0.mk (below_step oB hb); clear hb hbox hg; obtain ⟨⟨_, _, _, _, _, _⟩, _, _, _, _, _, _⟩ := z6 BK308) | ((with_reducible refine gate_callee (f := 50) rfl ?_); refine gl_ 8 Try.func50 (laws_heldByteS.calls k _ _ l0_3 a1 t309 _ (kC HR0_3) HC0_3.out A3.out) ?_; rintro e w' ⟨rfl, ⟨nd, rfl⟩⟩; refine ⟨_, rfl, ?_⟩) | ((with_reducible refine gate_callee (f := 105) rfl ?_); refine gl_ 14 Try.func105 (laws_heldEntS.calls k _ _ l0_4 t309 t310 _ (kC HR0_4) HC0_4.out A7.out) ?_; rintro e w16 ⟨rfl, hb⟩; refine ⟨_, rfl, ?_⟩; replace BK308 := kb_ BK308 hb; replace HB := Aside0.mk (below_step oB hb); obtain ⟨⟨_, _, _, _, _, _⟩, _, _, _, _, _, _⟩ := z6 BK308) | ((with_reducible refine gate_callee (f := 106) rfl ?_); refine gl_ 20 Try.func106 (laws_heldAttrS.calls k _ _ l0_5 t310 t311 _ (kC HR0_5) HC0_5.out A12.out) ?_; rintro e w18 ⟨rfl, hb⟩; refine ⟨_, rfl, ?_⟩; replace BK308 := kb_ BK308 hb; replace HB := Aside0.mk (below_step oB hb)))
    go_ret
    exact ⟨oE, oB⟩
   ·obtain rfl := Option.some.inj H
    go_enter Try.func53, Try.ntmps53
    go_wp2_with (first | ((with_reducible refine gate_dst (N := 2) rfl ?_); refine bx_ 2 #[.int .i64 a0_0, .int .i64 a0_1, .int .i64 a0_2, .slice A0_3 l0_3.length c0_3, .slice A0_4 l0_4.length c0_4, .slice A0_5 l0_5.length c0_5] 45 ?_; intro gb308 hg w19 hbox hb; have BK308 := Aside0.mk (hbox); have GW308 := gs_ hg; have GE308 := gs_ hg; replace HB := Aside0.mk (below_step oB hb); clear hb hbox hg; obtain ⟨⟨_, _, _, _, _, _⟩, _, _, _, _, _, _⟩ := z6 BK308) | ((with_reducible refine gate_callee (f := 50) rfl ?_); refine gl_ 8 Try.func50 (laws_heldByteS.calls k _ _ l0_3 a1 t309 _ (kC HR0_3) HC0_3.out A3.out) ?_; rintro e w' ⟨rfl, ⟨nd, rfl⟩⟩; refine ⟨_, rfl, ?_⟩) | ((with_reducible refine gate_callee (f := 105) rfl ?_); refine gl_ 14 Try.func105 (laws_heldEntS.calls k _ _ l0_4 t309 t310 _ (kC HR0_4) HC0_4.out A7.out) ?_; rintro e w21 ⟨rfl, hb⟩; refine ⟨_, rfl, ?_⟩; replace BK308 := kb_ BK308 hb; replace HB := Aside0.mk (below_step oB hb); obtain ⟨⟨_, _, _, _, _, _⟩, _, _, _, _, _, _⟩ := z6 BK308) | ((with_reducible refine gate_callee (f := 106) rfl ?_); refine gl_ 20 Try.func106 (laws_heldAttrS.calls k _ _ l0_5 t310 t311 _ (kC HR0_5) HC0_5.out A12.out) ?_; rintro e w23 ⟨rfl, hb⟩; refine ⟨_, rfl, ?_⟩; replace BK308 := kb_ BK308 hb; replace HB := Aside0.mk (below_step oB hb)))
    go_ret
    exact ⟨oE, oB⟩

/-! ### laws_FnExactInodeAt: function 12 -/
theorem laws_heldInode.calls' (k : Nat) (a0_0 a0_1 a0_2 : Int) (A0_3 : Option Addr) (c0_3 n3 : Nat) (l0_3 : List Int) (A0_4 : Option Addr) (c0_4 n4 : Nat) (l0_4 : List S83) (A0_5 : Option Addr) (c0_5 n5 : Nat) (l0_5 : List S85) (a1 r : Int) (w : World) (e3 : l0_3.length = n3) (e4 : l0_4.length = n4) (e5 : l0_5.length = n5) (hr0_3 : Kd.C (Kd.int .u8) w A0_3 l0_3.length l0_3) (hc0_3 : l0_3.length ≤ c0_3) (hr0_4 : Kd.C k83 w A0_4 l0_4.length l0_4) (hc0_4 : l0_4.length ≤ c0_4) (hr0_5 : Kd.C k85 w A0_5 l0_5.length l0_5) (hc0_5 : l0_5.length ≤ c0_5) (h : laws_heldInode.f k a0_0 a0_1 a0_2 l0_3 l0_4 l0_5 a1 = some r) :
  Calls Try.prog 53 #[.agg #[.int .i64 a0_0, .int .i64 a0_1, .int .i64 a0_2, .slice A0_3 n3 c0_3, .slice A0_4 n4 c0_4, .slice A0_5 n5 c0_5], .int .i64 a1] w fun e w' => e = .returned (.int .i64 r) ∧ Below w.heap.size w w' := by
 subst e3
 subst e4
 subst e5
 exact laws_heldInode.calls k a0_0 a0_1 a0_2 A0_3 c0_3 l0_3 A0_4 c0_4 l0_4 A0_5 c0_5 l0_5 a1 r w hr0_3 hc0_3 hr0_4 hc0_4 hr0_5 hc0_5 h
def laws_FnExactInodeAt.T10 : Bool × List (List Nat × List Nat) := (true, [([], []), ([], []), ([1], [1]), ([0, 2, 2], [0, 2]), ([3], [3])])
def laws_FnExactInodeAt.B10 : List Nat := [0, 0, 2, 7, 15]
theorem laws_FnExactInodeAt.tab10 : rtab .any (opsOf Try.f12 10) = laws_FnExactInodeAt.T10 := by kernel_rfl
theorem laws_FnExactInodeAt.bits10 : waitsOk laws_FnExactInodeAt.T10.2 laws_FnExactInodeAt.B10 = true := by kernel_rfl
def laws_FnExactInodeAt.f (k : Nat) (l0_0 : List S39) (a0_1 a1 : Int) : Option Bool :=
 (laws_szTab.f k l0_0 a0_1 1048576).bind fun R => if R < 0 then some true else
 (laws_toTab.f k l0_0 a0_1).bind fun t => (spec_InodeAt.f k t.1 t.2 a1).bind fun p => (impl_InodeAt.f k t.1 t.2 a1).bind fun s =>
 (laws_eqInode.f k s.1 s.2.1 s.2.2.1 s.2.2.2.1 s.2.2.2.2.1 s.2.2.2.2.2.1 p.1 p.2.1 p.2.2.1 p.2.2.2.1 p.2.2.2.2.1 p.2.2.2.2.2.1).bind fun e1 =>
 (laws_eqTab.f k t.1 t.2 t.1 t.2).bind fun e2 => (laws_markInodeS.f k t.1 1).bind fun mt =>
 (laws_markInode.f k s.1 s.2.1 s.2.2.1 s.2.2.2.1 s.2.2.2.2.1 s.2.2.2.2.2.1 1).bind fun m => (laws_heldInode.f k s.1 s.2.1 s.2.2.1 m.2.1 m.2.2.1 m.2.2.2 1).bind fun q =>
 if s.2.2.2.2.2.2 = p.2.2.2.2.2.2 ∧ e1 = true ∧ e2 = true ∧ ¬ mt.1 < 0 ∧ ¬ q < 0 ∧ q = m.1 ∧ m.2.1.length = s.2.2.2.1.length ∧ m.2.2.1.length = s.2.2.2.2.1.length ∧ m.2.2.2.length = s.2.2.2.2.2.1.length then some true else none
set_option maxHeartbeats 8000000 in
set_option maxRecDepth 100000 in
theorem laws_FnExactInodeAt.calls (k : Nat) (A0_0 : Option Addr) (c0_0 : Nat) (l0_0 : List S39) (a0_1 a1 : Int) (r : Bool) (w : World) (hr0_0 : Kd.C k39 w A0_0 l0_0.length l0_0) (hc0_0 : l0_0.length ≤ c0_0) (h : laws_FnExactInodeAt.f k l0_0 a0_1 a1 = some r) :
  Calls Try.prog 12 #[.agg #[.slice A0_0 l0_0.length c0_0, .int .i64 a0_1], .int .i64 a1] w fun e w' => e = .returned (.bool r) ∧ Below w.heap.size w w' := by
 have HR0_0 := Aside0.mk hr0_0
 have HC0_0 := Aside0.mk hc0_0
 clear hr0_0 hc0_0
 have HB := Aside0.mk (Below.refl w.heap.size w)
 unfold laws_FnExactInodeAt.f at h
 replace h := bA h
 obtain ⟨R, H1, h⟩ := h
 split at h
 case isTrue hR =>
  have cR : decide (R < 0) = true := decide_eq_true hR
  obtain rfl := Option.some.inj h
  clear h hR
  go_enter Try.func12, Try.ntmps12
  go_wp2_with fail
  refine (laws_szTab.calls k _ _ l0_0 a0_1 1048576 R _ (kC HR0_0) HC0_0.out H1.out).mono ?_
  rintro e w1 ⟨rfl, hb⟩
  replace HB := Aside0.mk (below_step oB hb)
  go_wp2
  go_ret
  exact ⟨rfl, oB⟩
 case isFalse hR =>
 have cR : decide (R < 0) = false := decide_eq_false hR
 clear hR
 replace h := bA h
 obtain ⟨⟨tl, tn⟩, H2, h⟩ := h
 replace h := bA h
 obtain ⟨⟨p1, p2, p3, p4, p5, p6, p7⟩, H3, h⟩ := h
 replace h := bA h
 obtain ⟨⟨s1, s2, s3, s4, s5, s6, s7⟩, H4, h⟩ := h
 replace h := bA h
 obtain ⟨e1, H5, h⟩ := h
 replace h := bA h
 obtain ⟨e2, H6, h⟩ := h
 replace h := bA h
 obtain ⟨⟨mt, ml⟩, H7, h⟩ := h
 replace h := bA h
 obtain ⟨⟨mk, m4, m5, m6⟩, H8, h⟩ := h
 replace h := bA h
 obtain ⟨q, H9, h⟩ := h
 split at h
 case isFalse => cases h
 case isTrue hh =>
 try dsimp only at hh
 obtain ⟨rfl, rfl, rfl, hmt, hq, rfl, l4, l5, l6⟩ := hh
 obtain rfl := Option.some.inj h
 clear h
 have cm : decide (mt < 0) = false := decide_eq_false hmt
 have cq : decide (q < 0) = false := decide_eq_false hq
 clear hmt hq
 have L4 := Aside0.mk l4
 have L5 := Aside0.mk l5
 have L6 := Aside0.mk l6
 clear l4 l5 l6
 try dsimp only at H3 H4 H5 H6 H7 H8 H9 L4 L5 L6
 go_enter Try.func12, Try.ntmps12
 go_wp2_with fail
 refine (laws_szTab.calls k _ _ l0_0 a0_1 1048576 R _ (kC HR0_0) HC0_0.out H1.out).mono ?_
 rintro e w1 ⟨rfl, hb⟩
 have n1 : w.heap.size + 1 ≤ w1.heap.size := by have := hb.size; simpa using this
 have K_aT := bnew hb
 replace hb := bold hb
 replace HB := Aside0.mk (below_step oB hb)
 clear hb
 have Z_aT := z2 K_aT
 have Y_aT := zz2 K_aT
 go_wp2_with fail
 refine (laws_toTab.calls k _ _ l0_0 a0_1 tl tn _ (kC HR0_0) HC0_0.out H2.out).mono ?_
 rintro e w2 ⟨v_t0, rfl, h_t0, hb⟩
 obtain ⟨A_t0, c_t0, rfl⟩ := Kd.S_slice h_t0
 have S_t0 := siv' h_t0 (w1.heap.size) w.heap.size (by simp) (below_size oB)
 clear h_t0
 have n2 : w1.heap.size ≤ w2.heap.size := by have := hb.size; simpa using this
 replace K_aT := bstep K_aT hb
 replace HB := Aside0.mk (below_step oB hb)
 clear hb
 replace Z_aT := z2 K_aT
 replace Y_aT := zz2 K_aT
 go_wp2_with fail
 refine (spec_InodeAt.calls k _ _ tl tn a1 p1 p2 p3 p4 p5 p6 s7 _ (rS S_t0) (rl S_t0) H3.out).mono ?_
 rintro e w3 ⟨v_w03, v_w04, v_w05, rfl, h_w03, h_w04, h_w05, hb⟩
 obtain ⟨A_w03, c_w03, rfl⟩ := Kd.R_slice h_w03
 have S_w03 := riv' h_w03 (w2.heap.size) w.heap.size (by simp) (below_size oB)
 clear h_w03
 obtain ⟨A_w04, c_w04, rfl⟩ := Kd.R_slice h_w04
 have S_w04 := riv' h_w04 (w2.heap.size) w.heap.size (by simp) (below_size oB)
 clear h_w04
 obtain ⟨A_w05, c_w05, rfl⟩ := Kd.R_slice h_w05
 have S_w05 := riv' h_w05 (w2.heap.size) w.heap.size (by simp) (below_size oB)
 clear h_w05
 have n3 : w2.heap.size ≤ w3.heap.size := by have := hb.size; simpa using this
 replace K_aT := bstep K_aT hb
 replace S_t0 := sb S_t0 hb
 replace HB := Aside0.mk (below_step oB hb)
 clear hb
 replace Z_aT := z2 K_aT
 replace Y_aT := zz2 K_aT
 clear S_t0
 go_wp2_with fail
 refine (laws_toTab.calls k _ _ l0_0 a0_1 tl tn _ (kC HR0_0) HC0_0.out H2.out).mono ?_
 rintro e w4 ⟨v_x0, rfl, h_x0, hb⟩
 obtain ⟨A_x0, c_x0, rfl⟩ := Kd.S_slice h_x0
 have S_x0 := siv' h_x0 (w3.heap.size + 1) w.heap.size (by simp) (below_size oB)
 clear h_x0
 have n4 : w3.heap.size + 1 ≤ w4.heap.size := by have := hb.size; simpa using this
 have K_w0 := bnew hb
 replace hb := bold hb
 replace K_aT := bstep K_aT hb
 replace S_w03 := rb S_w03 hb
 replace S_w04 := rb S_w04 hb
 replace S_w05 := rb S_w05 hb
 replace HB := Aside0.mk (below_step oB hb)
 clear hb
 replace Z_aT := z2 K_aT
 replace Y_aT := zz2 K_aT
 have Z_w0 := z6 K_w0
 have Y_w0 := zz6 K_w0
 go_wp2_with fail
 refine (impl_InodeAt.calls k _ _ tl tn a1 s1 s2 s3 s4 s5 s6 s7 _ (rS S_x0) (rl S_x0) H4.out).mono ?_
 rintro e w5 ⟨v_g03, v_g04, v_g05, rfl, h_g03, h_g04, h_g05, hb⟩
 obtain ⟨A_g03, c_g03, rfl⟩ := Kd.R_slice h_g03
 have S_g03 := riv' h_g03 (w4.heap.size + 1) w.heap.size (by simp) (below_size oB)
 clear h_g03
 obtain ⟨A_g04, c_g04, rfl⟩ := Kd.R_slice h_g04
 have S_g04 := riv' h_g04 (w4.heap.size + 1) w.heap.size (by simp) (below_size oB)
 clear h_g04
 obtain ⟨A_g05, c_g05, rfl⟩ := Kd.R_slice h_g05
 have S_g05 := riv' h_g05 (w4.heap.size + 1) w.heap.size (by simp) (below_size oB)
 clear h_g05
 have n5 : w4.heap.size + 1 ≤ w5.heap.size := by have := hb.size; simpa using this
 have K_x0 := bnew hb
 replace hb := bold hb
 replace K_aT := bstep K_aT hb
 replace K_w0 := bstep K_w0 hb
 replace S_w03 := rb S_w03 hb
 replace S_w04 := rb S_w04 hb
 replace S_w05 := rb S_w05 hb
 replace S_x0 := sb S_x0 hb
 replace HB := Aside0.mk (below_step oB hb)
 clear hb
 replace Z_aT := z2 K_aT
 replace Y_aT := zz2 K_aT
 replace Z_w0 := z6 K_w0
 replace Y_w0 := zz6 K_w0
 have Z_x0 := z2 K_x0
 have Y_x0 := zz2 K_x0
 go_wp2_with fail
 refine (laws_eqInode.calls k s1 s2 s3 _ _ s4 _ _ s5 _ _ s6 p1 p2 p3 _ _ p4 _ _ p5 _ _ p6 true _ (kO S_g03) (rlR S_g03) (kO S_g04) (rlR S_g04) (kO S_g05) (rlR S_g05) (kO S_w03) (rlR S_w03) (kO S_w04) (rlR S_w04) (kO S_w05) (rlR S_w05) H5.out).mono ?_
 rintro e w6 ⟨rfl, hb⟩
 have n6 : w5.heap.size + 1 ≤ w6.heap.size := by have := hb.size; simpa using this
 have K_g0 := bnew hb
 replace hb := bold hb
 replace K_aT := bstep K_aT hb
 replace K_w0 := bstep K_w0 hb
 replace K_x0 := bstep K_x0 hb
 replace S_w03 := rb S_w03 hb
 replace S_w04 := rb S_w04 hb
 replace S_w05 := rb S_w05 hb
 replace S_x0 := sb S_x0 hb
 replace S_g03 := rb S_g03 hb
 replace S_g04 := rb S_g04 hb
 replace S_g05 := rb S_g05 hb
 replace HB := Aside0.mk (below_step oB hb)
 clear hb
 replace Z_aT := z2 K_aT
 replace Y_aT := zz2 K_aT
 replace Z_w0 := z6 K_w0
 replace Y_w0 := zz6 K_w0
 replace Z_x0 := z2 K_x0
 replace Y_x0 := zz2 K_x0
 have Z_g0 := z6 K_g0
 have Y_g0 := zz6 K_g0
 go_wp2_with fail
 replace K_aT := bdrew K_aT
 replace K_w0 := bdrew K_w0
 replace K_x0 := bdrew K_x0
 replace K_g0 := bdrew K_g0
 replace S_w03 := rdrew S_w03
 replace S_w04 := rdrew S_w04
 replace S_w05 := rdrew S_w05
 replace S_x0 := sdrew S_x0
 replace S_g03 := rdrew S_g03
 replace S_g04 := rdrew S_g04
 replace S_g05 := rdrew S_g05
 replace HB := Aside0.mk (below_drew1 HB.out)
 have n7 : w6.heap.size ≤ w6.drew.heap.size := Nat.le_refl _
 clear Z_aT Y_aT Z_w0 Y_w0 Z_x0 Y_x0 Z_g0 Y_g0
 refine st_ 5 (fun w' => w'.cell? ⟨w4.heap.size, 0, none⟩ = some (.slice A_x0 tl.length c_x0) ∧ w'.cell? ⟨w4.heap.size, 1, none⟩ = some (.int .i64 tn) ∧ w'.cell? ⟨w.heap.size, 0, none⟩ = some (.slice A0_0 l0_0.length c0_0) ∧ w'.cell? ⟨w.heap.size, 1, none⟩ = some (.int .i64 a0_1)) laws_FnExactInodeAt.tab10 laws_FnExactInodeAt.bits10 oH (fun hHeld HT_ HW_ => ?_)
 generalize w6.drew = w7 at HB hHeld n7 K_aT K_w0 K_x0 K_g0 S_w03 S_w04 S_w05 S_x0 S_g03 S_g04 S_g05 ⊢
 refine ta_ 0 45 HT_ HW_ hHeld ?_
 refine ta_ 1 46 HT_ HW_ hHeld ?_
 refine on_ 2 47 HT_ (fun K hK => ?_)
 refine gr_ 47 Try.func35 (laws_toTab.calls k _ _ l0_0 a0_1 tl tn _ (kC HR0_0) HC0_0.out H2.out) ?_
 rintro e w8 ⟨v_y0, rfl, h_y0, hb⟩
 obtain ⟨A_y0, c_y0, rfl⟩ := Kd.S_slice h_y0
 have S_y0 := siv' h_y0 (w7.heap.size) w.heap.size (by simp) (below_size oB)
 clear h_y0
 refine ⟨_, rfl, ?_⟩
 have n8 : w7.heap.size ≤ w8.heap.size := by have := hb.size; simpa using this
 replace K_aT := bstep K_aT hb
 replace K_w0 := bstep K_w0 hb
 replace K_x0 := bstep K_x0 hb
 replace K_g0 := bstep K_g0 hb
 replace S_w03 := rb S_w03 hb
 replace S_w04 := rb S_w04 hb
 replace S_w05 := rb S_w05 hb
 replace S_x0 := sb S_x0 hb
 replace S_g03 := rb S_g03 hb
 replace S_g04 := rb S_g04 hb
 replace S_g05 := rb S_g05 hb
 replace HB := Aside0.mk (below_step oB hb)
 clear hb hHeld
 refine hk_ hK 47 oH (fun hHeld => ?_)
 clear hK K
 refine on_ 3 48 HT_ (fun K hK => ?_)
 refine gr_ 48 Try.func25 (laws_eqTab.calls k _ _ tl tn _ _ tl tn true _ (rS S_x0) (rl S_x0) (rS S_y0) (rl S_y0) H6.out) ?_
 rintro e w9 ⟨rfl, hb⟩
 refine ⟨_, rfl, ?_⟩
 have n9 : w8.heap.size ≤ w9.heap.size := by have := hb.size; simpa using this
 replace K_aT := bstep K_aT hb
 replace K_w0 := bstep K_w0 hb
 replace K_x0 := bstep K_x0 hb
 replace K_g0 := bstep K_g0 hb
 replace S_w03 := rb S_w03 hb
 replace S_w04 := rb S_w04 hb
 replace S_w05 := rb S_w05 hb
 replace S_x0 := sb S_x0 hb
 replace S_g03 := rb S_g03 hb
 replace S_g04 := rb S_g04 hb
 replace S_g05 := rb S_g05 hb
 replace S_y0 := sb S_y0 hb
 replace HB := Aside0.mk (below_step oB hb)
 clear hb hHeld
 refine hk_ hK 48 oH (fun hHeld => ?_)
 clear hK K
 refine pu_ 4 49 HT_ ?_
 refine dn_ HT_ ?_
 clear hHeld HT_ HW_
 have Z_aT := z2 K_aT
 have Y_aT := zz2 K_aT
 have Z_w0 := z6 K_w0
 have Y_w0 := zz6 K_w0
 have Z_x0 := z2 K_x0
 have Y_x0 := zz2 K_x0
 have Z_g0 := z6 K_g0
 have Y_g0 := zz6 K_g0
 clear S_y0
 go_wp2_with fail
 refine (laws_markTab.calls k _ _ tl tn 1 mt ml w _ HB.out S_x0.out H7.out).mono ?_
 rintro e w10 ⟨rfl, h_x0, hb, hk⟩
 have n10 : w9.heap.size ≤ w10.heap.size := hk.1
 replace S_w03 := rk S_w03 hk (fun q h h' => by omega)
 replace S_w04 := rk S_w04 hk (fun q h h' => by omega)
 replace S_w05 := rk S_w05 hk (fun q h h' => by omega)
 replace S_g03 := rk S_g03 hk (fun q h h' => by omega)
 replace S_g04 := rk S_g04 hk (fun q h h' => by omega)
 replace S_g05 := rk S_g05 hk (fun q h h' => by omega)
 replace K_aT := bkept K_aT hk (fun h => by omega)
 replace K_w0 := bkept K_w0 hk (fun h => by omega)
 clear K_x0 Z_x0 Y_x0
 replace K_g0 := bkept K_g0 hk (fun h => by omega)
 clear S_x0
 clear h_x0
 replace HB := Aside0.mk hb
 clear hb hk
 replace Z_aT := z2 K_aT
 replace Y_aT := zz2 K_aT
 replace Z_w0 := z6 K_w0
 replace Y_w0 := zz6 K_w0
 replace Z_g0 := z6 K_g0
 replace Y_g0 := zz6 K_g0
 go_wp2_with fail
 refine (laws_eqInode.calls k s1 s2 s3 _ _ s4 _ _ s5 _ _ s6 p1 p2 p3 _ _ p4 _ _ p5 _ _ p6 true _ (kO S_g03) (rlR S_g03) (kO S_g04) (rlR S_g04) (kO S_g05) (rlR S_g05) (kO S_w03) (rlR S_w03) (kO S_w04) (rlR S_w04) (kO S_w05) (rlR S_w05) H5.out).mono ?_
 rintro e w11 ⟨rfl, hb⟩
 have n11 : w10.heap.size ≤ w11.heap.size := by have := hb.size; simpa using this
 replace K_aT := bstep K_aT hb
 replace K_w0 := bstep K_w0 hb
 replace K_g0 := bstep K_g0 hb
 replace S_w03 := rb S_w03 hb
 replace S_w04 := rb S_w04 hb
 replace S_w05 := rb S_w05 hb
 replace S_g03 := rb S_g03 hb
 replace S_g04 := rb S_g04 hb
 replace S_g05 := rb S_g05 hb
 replace HB := Aside0.mk (below_step oB hb)
 clear hb
 replace Z_aT := z2 K_aT
 replace Y_aT := zz2 K_aT
 replace Z_w0 := z6 K_w0
 replace Y_w0 := zz6 K_w0
 replace Z_g0 := z6 K_g0
 replace Y_g0 := zz6 K_g0
 go_wp2_with fail
 refine (laws_markInode.calls k s1 s2 s3 _ _ s4 _ _ s5 _ _ s6 1 q m4 m5 m6 w _ HB.out S_g03.out S_g04.out S_g05.out H8.out).mono ?_
 rintro e w12 ⟨rfl, h_g03, h_g04, h_g05, hb, hk⟩
 have n12 : w11.heap.size ≤ w12.heap.size := hk.1
 replace S_w03 := rk S_w03 hk (fun q h h' => by omega)
 replace S_w04 := rk S_w04 hk (fun q h h' => by omega)
 replace S_w05 := rk S_w05 hk (fun q h h' => by omega)
 replace K_aT := bkept K_aT hk (fun h => by omega)
 replace K_w0 := bkept K_w0 hk (fun h => by omega)
 replace K_g0 := bkept K_g0 hk (fun h => by omega)
 replace S_g03 := Aside0.mk h_g03
 clear h_g03
 replace S_g04 := Aside0.mk h_g04
 clear h_g04
 replace S_g05 := Aside0.mk h_g05
 clear h_g05
 replace HB := Aside0.mk hb
 clear hb hk
 replace Z_aT := z2 K_aT
 replace Y_aT := zz2 K_aT
 replace Z_w0 := z6 K_w0
 replace Y_w0 := zz6 K_w0
 replace Z_g0 := z6 K_g0
 replace Y_g0 := zz6 K_g0
 go_wp2_with fail
 refine (laws_heldInode.calls' k s1 s2 s3 _ _ _ m4 _ _ _ m5 _ _ _ m6 1 q _ L4.out L5.out L6.out (kO S_g03) (rlR S_g03) (kO S_g04) (rlR S_g04) (kO S_g05) (rlR S_g05) H9.out).mono ?_
 rintro e w13 ⟨rfl, hb⟩
 have n13 : w12.heap.size ≤ w13.heap.size := by have := hb.size; simpa using this
 replace K_aT := bstep K_aT hb
 replace K_w0 := bstep K_w0 hb
 replace K_g0 := bstep K_g0 hb
 replace S_w03 := rb S_w03 hb
 replace S_w04 := rb S_w04 hb
 replace S_w05 := rb S_w05 hb
 replace S_g03 := rb S_g03 hb
 replace S_g04 := rb S_g04 hb
 replace S_g05 := rb S_g05 hb
 replace HB := Aside0.mk (below_step oB hb)
 clear hb
 replace Z_aT := z2 K_aT
 replace Y_aT := zz2 K_aT
 replace Z_w0 := z6 K_w0
 replace Y_w0 := zz6 K_w0
 replace Z_g0 := z6 K_g0
 replace Y_g0 := zz6 K_g0
 go_wp2_with fail
 refine (laws_toTab.calls k _ _ l0_0 a0_1 tl tn _ (kC HR0_0) HC0_0.out H2.out).mono ?_
 rintro e w14 ⟨v_z0, rfl, h_z0, hb⟩
 obtain ⟨A_z0, c_z0, rfl⟩ := Kd.S_slice h_z0
 have S_z0 := siv' h_z0 (w13.heap.size) w.heap.size (by simp) (below_size oB)
 clear h_z0
 have n14 : w13.heap.size ≤ w14.heap.size := by have := hb.size; simpa using this
 replace K_aT := bstep K_aT hb
 replace K_w0 := bstep K_w0 hb
 replace K_g0 := bstep K_g0 hb
 replace S_w03 := rb S_w03 hb
 replace S_w04 := rb S_w04 hb
 replace S_w05 := rb S_w05 hb
 replace S_g03 := rb S_g03 hb
 replace S_g04 := rb S_g04 hb
 replace S_g05 := rb S_g05 hb
 replace HB := Aside0.mk (below_step oB hb)
 clear hb
 replace Z_aT := z2 K_aT
 replace Y_aT := zz2 K_aT
 replace Z_w0 := z6 K_w0
 replace Y_w0 := zz6 K_w0
 replace Z_g0 := z6 K_g0
 replace Y_g0 := zz6 K_g0
 go_wp2_with fail
 refine (impl_InodeAt.calls k _ _ tl tn a1 s1 s2 s3 s4 s5 s6 s7 _ (rS S_z0) (rl S_z0) H4.out).mono ?_
 rintro e w15 ⟨v_h03, v_h04, v_h05, rfl, h_h03, h_h04, h_h05, hb⟩
 obtain ⟨A_h03, c_h03, rfl⟩ := Kd.R_slice h_h03
 have S_h03 := riv' h_h03 (w14.heap.size) w.heap.size (by simp) (below_size oB)
 clear h_h03
 obtain ⟨A_h04, c_h04, rfl⟩ := Kd.R_slice h_h04
 have S_h04 := riv' h_h04 (w14.heap.size) w.heap.size (by simp) (below_size oB)
 clear h_h04
 obtain ⟨A_h05, c_h05, rfl⟩ := Kd.R_slice h_h05
 have S_h05 := riv' h_h05 (w14.heap.size) w.heap.size (by simp) (below_size oB)
 clear h_h05
 have n15 : w14.heap.size ≤ w15.heap.size := by have := hb.size; simpa using this
 replace K_aT := bstep K_aT hb
 replace K_w0 := bstep K_w0 hb
 replace K_g0 := bstep K_g0 hb
 replace S_w03 := rb S_w03 hb
 replace S_w04 := rb S_w04 hb
 replace S_w05 := rb S_w05 hb
 replace S_g03 := rb S_g03 hb
 replace S_g04 := rb S_g04 hb
 replace S_g05 := rb S_g05 hb
 replace S_z0 := sb S_z0 hb
 replace HB := Aside0.mk (below_step oB hb)
 clear hb
 replace Z_aT := z2 K_aT
 replace Y_aT := zz2 K_aT
 replace Z_w0 := z6 K_w0
 replace Y_w0 := zz6 K_w0
 replace Z_g0 := z6 K_g0
 replace Y_g0 := zz6 K_g0
 go_wp2_with fail
 refine (laws_eqInode.calls k s1 s2 s3 _ _ s4 _ _ s5 _ _ s6 p1 p2 p3 _ _ p4 _ _ p5 _ _ p6 true _ (kO S_h03) (rlR S_h03) (kO S_h04) (rlR S_h04) (kO S_h05) (rlR S_h05) (kO S_w03) (rlR S_w03) (kO S_w04) (rlR S_w04) (kO S_w05) (rlR S_w05) H5.out).mono ?_
 rintro e w16 ⟨rfl, hb⟩
 have n16 : w15.heap.size + 1 ≤ w16.heap.size := by have := hb.size; simpa using this
 have K_h0 := bnew hb
 replace hb := bold hb
 replace K_aT := bstep K_aT hb
 replace K_w0 := bstep K_w0 hb
 replace K_g0 := bstep K_g0 hb
 replace S_w03 := rb S_w03 hb
 replace S_w04 := rb S_w04 hb
 replace S_w05 := rb S_w05 hb
 replace S_g03 := rb S_g03 hb
 replace S_g04 := rb S_g04 hb
 replace S_g05 := rb S_g05 hb
 replace S_z0 := sb S_z0 hb
 replace S_h03 := rb S_h03 hb
 replace S_h04 := rb S_h04 hb
 replace S_h05 := rb S_h05 hb
 replace HB := Aside0.mk (below_step oB hb)
 clear hb
 replace Z_aT := z2 K_aT
 replace Y_aT := zz2 K_aT
 replace Z_w0 := z6 K_w0
 replace Y_w0 := zz6 K_w0
 replace Z_g0 := z6 K_g0
 replace Y_g0 := zz6 K_g0
 have Z_h0 := z6 K_h0
 have Y_h0 := zz6 K_h0
 go_wp2_with fail
 refine (laws_heldInode.calls' k s1 s2 s3 _ _ _ m4 _ _ _ m5 _ _ _ m6 1 q _ L4.out L5.out L6.out (kO S_g03) (rlR S_g03) (kO S_g04) (rlR S_g04) (kO S_g05) (rlR S_g05) H9.out).mono ?_
 rintro e w17 ⟨rfl, hb⟩
 have n17 : w16.heap.size ≤ w17.heap.size := by have := hb.size; simpa using this
 replace K_aT := bstep K_aT hb
 replace K_w0 := bstep K_w0 hb
 replace K_g0 := bstep K_g0 hb
 replace K_h0 := bstep K_h0 hb
 replace S_w03 := rb S_w03 hb
 replace S_w04 := rb S_w04 hb
 replace S_w05 := rb S_w05 hb
 replace S_g03 := rb S_g03 hb
 replace S_g04 := rb S_g04 hb
 replace S_g05 := rb S_g05 hb
 replace S_z0 := sb S_z0 hb
 replace S_h03 := rb S_h03 hb
 replace S_h04 := rb S_h04 hb
 replace S_h05 := rb S_h05 hb
 replace HB := Aside0.mk (below_step oB hb)
 clear hb
 replace Z_aT := z2 K_aT
 replace Y_aT := zz2 K_aT
 replace Z_w0 := z6 K_w0
 replace Y_w0 := zz6 K_w0
 replace Z_g0 := z6 K_g0
 replace Y_g0 := zz6 K_g0
 replace Z_h0 := z6 K_h0
 replace Y_h0 := zz6 K_h0
 go_wp2_with fail
 go_ret
 exact ⟨rfl, oB⟩
end Go.Proofs.Ytkknehgaebhbeaa.P
