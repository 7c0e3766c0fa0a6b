-- By this session's own program (wip/myprint.py) out of the translation; Lean checks it.
import Derived.Test.YtmndnegpclaidaaPx0
import Derived.Test.YtmndnegpclaidaaPx1
namespace Go.Proofs.Ytmndnegpclaidaa.P
open Go.RowKit Go.Proofs.YtmndnegpclaidaaW.PrintWords Go.Proofs.YtmndnegpclaidaaW.PrintLast Go.Proofs.YtmndnegpclaidaaW.PrintMore
attribute [local go_sem] max2_int min2_int max_two min_two max_three min_three max_four min_four   -- for this text's walks alone
set_option linter.unusedVariables false
set_option linter.unusedSimpArgs false

/-! ### spec_SetInode: function 9 -/
def spec_SetInode.l0 : Nat → Int → List (S40) → Int → Int → Int → Int → List Int → List (S82) → List (S90) → List (S40) → Int → Option ((List (S40)) × Int)
 | 0, _, _, _, _, _, _, _, _, _, _, _ => none
 | k + 1, x6, x158000, x158001, x159000, x159001, x159002, x159003, x159004, x159005, x165000, x165001 => if x6 < (x158000.length : Int) then (if 0 ≤ x6 then (if ((rd_T40 x158000 x6).f0) < x159000 then (spec_SetInode.l0 k (wrap64 (x6 + 1)) x158000 x158001 x159000 x159001 x159002 x159003 x159004 x159005 x165000 x165001) else ((some (([] : List (S40)) : List (S40))).bind fun y180 => (if x6 ≤ (x165000.length : Int) then ((some (x165000.take (x6 : Int).toNat : List (S40))).bind fun y183 => (if y180.length + y183.length < 1466015503701 then ((some (y180 ++ y183 : List (S40))).bind fun y188 => ((spec_l3Copy.f x159000 x159001 x159002 x159003 x159004 x159005).bind fun bt191 => (if y188.length < 1466015503701 then ((some (y188 ++ [(⟨bt191.1, bt191.2.1, bt191.2.2.1, bt191.2.2.2.1, bt191.2.2.2.2.1, bt191.2.2.2.2.2⟩ : S40)] : List (S40))).bind fun y203 => ((some (x165000.drop (x6 : Int).toNat : List (S40))).bind fun y206 => (if y203.length + y206.length < 1466015503701 then (some ((y203 ++ y206), x165001)) else (none)))) else (none)))) else (none))) else (none)))) else (none)) else ((some (([] : List (S40)) : List (S40))).bind fun y214 => (if 0 ≤ x6 then (if x6 ≤ (x165000.length : Int) then ((some (x165000.take (x6 : Int).toNat : List (S40))).bind fun y217 => (if y214.length + y217.length < 1466015503701 then ((some (y214 ++ y217 : List (S40))).bind fun y222 => ((spec_l3Copy.f x159000 x159001 x159002 x159003 x159004 x159005).bind fun bt225 => (if y222.length < 1466015503701 then ((some (y222 ++ [(⟨bt225.1, bt225.2.1, bt225.2.2.1, bt225.2.2.2.1, bt225.2.2.2.2.1, bt225.2.2.2.2.2⟩ : S40)] : List (S40))).bind fun y237 => ((some (x165000.drop (x6 : Int).toNat : List (S40))).bind fun y240 => (if y237.length + y240.length < 1466015503701 then (some ((y237 ++ y240), x165001)) else (none)))) else (none)))) else (none))) else (none)) else (none)))
def spec_SetInode.f (k : Nat) (l0_0 : List (S40)) (a0_1 : Int) (a1_0 : Int) (a1_1 : Int) (a1_2 : Int) (l1_3 : List Int) (l1_4 : List (S82)) (l1_5 : List (S90)) : Option ((List (S40)) × Int) := (spec_l4Copy.f k l0_0 a0_1).bind fun bt160 => ((spec_l4At.f k l0_0 a0_1 a1_0).bind fun t165 => (if t165 ≥ 0 then ((spec_l3Copy.f a1_0 a1_1 a1_2 l1_3 l1_4 l1_5).bind fun bt166 => (if 0 ≤ t165 then (if t165 < (bt160.1.length : Int) then (some ((bt160.1.set (t165 : Int).toNat (⟨bt166.1, bt166.2.1, bt166.2.2.1, bt166.2.2.2.1, bt166.2.2.2.2.1, bt166.2.2.2.2.2⟩ : S40)), bt160.2)) else (none)) else (none))) else (spec_SetInode.l0 k 0 l0_0 a0_1 a1_0 a1_1 a1_2 l1_3 l1_4 l1_5 bt160.1 bt160.2)))
def spec_SetInode.T7 : Bool × List (List Nat × List Nat) := (true, [([], []), ([], []), ([1], [1]), ([2], [2]), ([0, 3], [0, 3]), ([4], [4]), ([5], [5]), ([6, 5], [5, 6]), ([5], [5]), ([7, 8, 5], [5, 7, 8]), ([9, 5], [5, 9]), ([10, 5], [5, 10]), ([5], [5]), ([12, 5], [5, 12]), ([11, 13, 5], [5, 11, 13]), ([5, 14], [5, 14])])
def spec_SetInode.B7 : List Nat := [0, 0, 2, 6, 15, 31, 63, 127, 63, 511, 1023, 2047, 63, 4159, 16383, 32767]
theorem spec_SetInode.tab7 : rtab .any (opsOf Try.f9 7) = spec_SetInode.T7 := by kernel_rfl
theorem spec_SetInode.bits7 : waitsOk spec_SetInode.T7.2 spec_SetInode.B7 = true := by kernel_rfl
def spec_SetInode.T9 : Bool × List (List Nat × List Nat) := (true, [([], []), ([], []), ([1], [1]), ([], []), ([2, 3], [2, 3]), ([0, 4], [0, 4]), ([], []), ([6, 5], [6]), ([7], [7]), ([5, 8, 7], [5, 8]), ([9, 9, 0, 1, 2, 3, 4, 5, 6, 7, 8, 9], [9])])
def spec_SetInode.B9 : List Nat := [0, 0, 2, 0, 14, 31, 0, 127, 255, 511, 1023]
theorem spec_SetInode.tab9 : rtab .any (opsOf Try.f9 9) = spec_SetInode.T9 := by kernel_rfl
theorem spec_SetInode.bits9 : waitsOk spec_SetInode.T9.2 spec_SetInode.B9 = true := by kernel_rfl
set_option maxHeartbeats 8000000 in
set_option maxRecDepth 100000 in
theorem spec_SetInode.calls (k : Nat) (A0_0 : Option Addr) (c0_0 : Nat) (l0_0 : List (S40)) (a0_1 : Int) (a1_0 : Int) (a1_1 : Int) (a1_2 : Int) (A1_3 : Option Addr) (c1_3 : Nat) (l1_3 : List Int) (A1_4 : Option Addr) (c1_4 : Nat) (l1_4 : List (S82)) (A1_5 : Option Addr) (c1_5 : Nat) (l1_5 : List (S90)) (r1 : List (S40)) (r2 : Int) (w : World) (hr0_0 : Kd.C k40 w A0_0 l0_0.length l0_0) (hc0_0 : l0_0.length ≤ c0_0) (hr1_3 : Kd.C (Kd.int .u8) w A1_3 l1_3.length l1_3) (hc1_3 : l1_3.length ≤ c1_3) (hr1_4 : Kd.C k82 w A1_4 l1_4.length l1_4) (hc1_4 : l1_4.length ≤ c1_4) (hr1_5 : Kd.C k90 w A1_5 l1_5.length l1_5) (hc1_5 : l1_5.length ≤ c1_5) (h : spec_SetInode.f k l0_0 a0_1 a1_0 a1_1 a1_2 l1_3 l1_4 l1_5 = some (r1, r2)) :
  Calls Try.prog 9 #[.agg #[.slice A0_0 l0_0.length c0_0, .int .i64 a0_1], .agg #[.int .i64 a1_0, .int .i64 a1_1, .int .i64 a1_2, .slice A1_3 l1_3.length c1_3, .slice A1_4 l1_4.length c1_4, .slice A1_5 l1_5.length c1_5]] w fun e w' => ∃ v0_ : Value, e = .returned (.agg #[v0_, .int .i64 r2]) ∧ Kd.N k40 40 w' w.heap.size (fun k_ => (w.heap.size ≤ k_)) v0_ r1 ∧ Below w.heap.size w w' := by
 have hu34 := Try.underlying34
 have hu40 := Try.underlying40
 have HR0_0 := Aside0.mk hr0_0
 have HC0_0 := Aside0.mk hc0_0
 clear hr0_0 hc0_0
 have HR1_3 := Aside0.mk hr1_3
 have HC1_3 := Aside0.mk hc1_3
 clear hr1_3 hc1_3
 have HR1_4 := Aside0.mk hr1_4
 have HC1_4 := Aside0.mk hc1_4
 clear hr1_4 hc1_4
 have HR1_5 := Aside0.mk hr1_5
 have HC1_5 := Aside0.mk hc1_5
 clear hr1_5 hc1_5
 have HB := Aside0.mk (Below.refl w.heap.size w)
 unfold spec_SetInode.f at h
 have H := h
 clear h
 replace H := bA H
 obtain ⟨⟨t160, t163⟩, A3, H⟩ := H
 try dsimp only at H
 replace H := bA H
 obtain ⟨t165, A4, H⟩ := H
 try dsimp only at H
 replace H := itH H
 rcases H with ⟨c5b0, H⟩ | ⟨c5b0, H⟩
 ·replace H := bA H
  obtain ⟨⟨t166, t167, t168, t169, t172, t175⟩, A6, H⟩ := H
  try dsimp only at H
  replace H := itD H
  rcases H with ⟨c7b0, H⟩ | ⟨c7b0, H⟩
  ·replace H := itD H
   rcases H with ⟨c8b0, H⟩ | ⟨c8b0, H⟩
   ·obtain ⟨y178, hy178⟩ : ∃ y_ : List (S40), y_ = (t160.set (t165 : Int).toNat (⟨t166, t167, t168, t169, t172, t175⟩ : S40)) := ⟨_, rfl⟩
    replace H : (some (y178, t163)) = some (r1, r2) := by first | (rw [hy178]; with_reducible exact H) | (have H2_ := (Option.bind_some _ _).symm.trans H; rw [hy178]; with_reducible exact H2_) | (have H2_ := (Option.bind_some _ _).symm.trans H; with_reducible exact H2_) | with_reducible exact H | (rw [hy178]; exact H) | exact H
    have Ny178 := Aside0.mk hy178
    clear hy178
    simp only [Option.some.injEq, Prod.mk.injEq] at H
    obtain ⟨rfl, rfl⟩ := H
    go_enter Try.func9, Try.ntmps9
    try go_wp2_with (first | ((with_reducible refine gate_dst (N := 2) rfl ?_); refine bx_ 2 #[.slice A0_0 l0_0.length c0_0, .int .i64 a0_1] 34 ?_; intro gb157 hg w10 hbox hb; have BK157 := Aside0.mk (hbox); have GW157 := gs_ hg; have GE157 := gs_ hg; replace HB := Aside0.mk (below_step oB hb); clear hb hbox hg) | ((with_reducible refine gate_dst (N := 3) rfl ?_); refine bx_ 3 #[.int .i64 a1_0, .int .i64 a1_1, .int .i64 a1_2, .slice A1_3 l1_3.length c1_3, .slice A1_4 l1_4.length c1_4, .slice A1_5 l1_5.length c1_5] 40 ?_; intro gb158 hg w11 hbox hb; have BK158 := Aside0.mk (hbox); have GW158 := gs_ hg; have GE158 := gs_ hg; have NB157_158 := nl_ hg BK157; have NB158_157 := nr_ hg BK157; replace BK157 := kb_ BK157 hb; replace HB := Aside0.mk (below_step oB hb); clear hb hbox hg) | ((with_reducible refine gate_dst (N := 4) rfl ?_); refine bx_ 4 #[.slice none 0 0, .int .i64 0] 34 ?_; intro gb159 hg w12 hbox hb; have BK159 := Aside0.mk (hbox); have GW159 := gs_ hg; have GE159 := gs_ hg; have NB157_159 := nl_ hg BK157; have NB159_157 := nr_ hg BK157; have NB158_159 := nl_ hg BK158; have NB159_158 := nr_ hg BK158; replace BK157 := kb_ BK157 hb; replace BK158 := kb_ BK158 hb; replace HB := Aside0.mk (below_step oB hb); clear hb hbox hg; have hnb13 := NB157_158.out; have hnc13 := NB158_157.out; have hnb14 := NB157_159.out; have hnc14 := NB159_157.out; obtain ⟨⟨_, _⟩, _, _⟩ := z2 BK157) | ((with_reducible refine gate_callee (f := 35) rfl ?_); refine gl_ 9 Try.func35 (spec_l4Copy.calls k _ _ l0_0 a0_1 t160 t163 _ (kC HR0_0) HC0_0.out A3.out) ?_; rintro e w16 ⟨v161, rfl, ho0, hb⟩; refine ⟨_, rfl, ?_⟩; have HO162 := Aside0.mk (Kd.N_lower (Kd.N_mono (ok' := fun k_ => (w.heap.size ≤ k_) ∧ k_ ≠ gb157 ∧ k_ ≠ gb158 ∧ k_ ≠ gb159) (Kd.S_N (Kd.S_bound ho0)) (fun k_ hk_ => ⟨(Nat.le_trans (below_size oB) hk_.2.1), (Kd.freshB (g := gb157) (o := .cells #[.slice A0_0 l0_0.length c0_0, .int .i64 a0_1] 34 (0, 0)) (oF BK157) k_ hk_.2.1), (Kd.freshB (g := gb158) (o := .cells #[.int .i64 a1_0, .int .i64 a1_1, .int .i64 a1_2, .slice A1_3 l1_3.length c1_3, .slice A1_4 l1_4.length c1_4, .slice A1_5 l1_5.length c1_5] 40 (0, 0)) (oF BK158) k_ hk_.2.1), (Kd.freshB (g := gb159) (o := .cells #[.slice none 0 0, .int .i64 0] 34 (0, 0)) (oF BK159) k_ hk_.2.1)⟩)) (below_size oB)); replace BK157 := kb_ BK157 hb; replace BK158 := kb_ BK158 hb; replace BK159 := kb_ BK159 hb; replace HB := Aside0.mk (below_step oB hb)) | ((with_reducible refine gate_dst (N := 5) rfl ?_); refine bx_ 5 #[.slice none 0 0, .int .i64 0] 34 ?_; intro gb164 hg w17 hbox hb; have BK164 := Aside0.mk (hbox); have GW164 := gs_ hg; have GE164 := gs_ hg; have NB157_164 := nl_ hg BK157; have NB164_157 := nr_ hg BK157; have NB158_164 := nl_ hg BK158; have NB164_158 := nr_ hg BK158; have NB159_164 := nl_ hg BK159; have NB164_159 := nr_ hg BK159; replace HO162 := Aside0.mk (Kd.N_below (Kd.N_elderB (by (with_reducible repeat (first | apply Kd.N_alloc | apply Kd.N_drewN | apply Kd.N_drew)); exact HO162.out) gb164 (Nat.le_of_eq hg.symm)) hb); replace BK157 := kb_ BK157 hb; replace BK158 := kb_ BK158 hb; replace BK159 := kb_ BK159 hb; replace HB := Aside0.mk (below_step oB hb); clear hb hbox hg; obtain ⟨Ao18, co18, eo18⟩ := Kd.N_slice HO162.out; subst eo18; have hnb19 := NB164_157.out; have hnc19 := NB157_164.out; have hnb20 := NB164_158.out; have hnc20 := NB158_164.out; have hnb21 := NB164_159.out; have hnc21 := NB159_164.out; obtain ⟨⟨_, _⟩, _, _⟩ := z2 BK164; obtain ⟨⟨_, _⟩, _, _⟩ := z2 BK157; have hnb24 := NB158_159.out; have hnc24 := NB159_158.out; obtain ⟨⟨_, _, _, _, _, _⟩, _, _, _, _, _, _⟩ := z6 BK158) | ((with_reducible refine gate_callee (f := 36) rfl ?_); refine gl_ 13 Try.func36 (spec_l4At.calls k _ _ l0_0 a0_1 a1_0 t165 _ ?side1 HC0_0.out A4.out) ?_; (case side1 => exact Kd.C_below HR0_0.out oB); rintro e w26 ⟨rfl, hb⟩; refine ⟨_, rfl, ?_⟩; replace HO162 := Aside0.mk (Kd.N_below (by (with_reducible repeat (first | apply Kd.N_alloc | apply Kd.N_drewN | apply Kd.N_drew)); exact (Kd.N_mono (Kd.N_far (p := ⟨gb164, 1, none⟩) (Kd.N_far (p := ⟨gb164, 0, none⟩) (Kd.N_mono HO162.out (fun k_ hk => (⟨hk, hk.2⟩ : _ ∧ k_ ≠ gb164))) (fun _ hk => hk.2) (.slice Ao18 t160.length co18)) (fun _ hk => hk.2) (.int .i64 t163)) (fun _ h_ => h_.1))) hb); replace BK157 := Aside0.mk (blk_below (g := gb157) (o := .cells #[.slice A0_0 l0_0.length c0_0, .int .i64 a0_1] 34 (0, 0)) (by (with_reducible repeat (first | refine blk_drewN ?_ _ | refine blk_drew ?_ | refine blk_alloc ?_ _)); refine blk_far ?_ NB157_164.out _; (with_reducible repeat (first | refine blk_drewN ?_ _ | refine blk_drew ?_ | refine blk_alloc ?_ _)); refine blk_far ?_ NB157_164.out _; (with_reducible repeat (first | refine blk_drewN ?_ _ | refine blk_drew ?_ | refine blk_alloc ?_ _)); exact BK157.out) hb); replace BK158 := Aside0.mk (blk_below (g := gb158) (o := .cells #[.int .i64 a1_0, .int .i64 a1_1, .int .i64 a1_2, .slice A1_3 l1_3.length c1_3, .slice A1_4 l1_4.length c1_4, .slice A1_5 l1_5.length c1_5] 40 (0, 0)) (by (with_reducible repeat (first | refine blk_drewN ?_ _ | refine blk_drew ?_ | refine blk_alloc ?_ _)); refine blk_far ?_ NB158_164.out _; (with_reducible repeat (first | refine blk_drewN ?_ _ | refine blk_drew ?_ | refine blk_alloc ?_ _)); refine blk_far ?_ NB158_164.out _; (with_reducible repeat (first | refine blk_drewN ?_ _ | refine blk_drew ?_ | refine blk_alloc ?_ _)); exact BK158.out) hb); replace BK159 := Aside0.mk (blk_below (g := gb159) (o := .cells #[.slice none 0 0, .int .i64 0] 34 (0, 0)) (by (with_reducible repeat (first | refine blk_drewN ?_ _ | refine blk_drew ?_ | refine blk_alloc ?_ _)); refine blk_far ?_ NB159_164.out _; (with_reducible repeat (first | refine blk_drewN ?_ _ | refine blk_drew ?_ | refine blk_alloc ?_ _)); refine blk_far ?_ NB159_164.out _; (with_reducible repeat (first | refine blk_drewN ?_ _ | refine blk_drew ?_ | refine blk_alloc ?_ _)); exact BK159.out) hb); replace BK164 := Aside0.mk (blk_below (g := gb164) (o := .cells #[.slice Ao18 t160.length co18, .int .i64 t163] 34 (0, 0)) (by (with_reducible repeat (first | refine blk_drewN ?_ _ | refine blk_drew ?_ | refine blk_alloc ?_ _)); refine blk_put (cs := #[.slice Ao18 t160.length co18, .int .i64 0]) ?_ 1 _ rfl; (with_reducible repeat (first | refine blk_drewN ?_ _ | refine blk_drew ?_ | refine blk_alloc ?_ _)); refine blk_put (cs := #[.slice none 0 0, .int .i64 0]) ?_ 0 _ rfl; (with_reducible repeat (first | refine blk_drewN ?_ _ | refine blk_drew ?_ | refine blk_alloc ?_ _)); exact BK164.out) hb); replace HB := Aside0.mk (below_step oB hb); (try clear hk)))
    replace HO162 := Aside0.mk (Kd.N_drew HO162.out)
    replace BK157 := Aside0.mk (blk_drew BK157.out)
    replace BK158 := Aside0.mk (blk_drew BK158.out)
    replace BK159 := Aside0.mk (blk_drew BK159.out)
    replace BK164 := Aside0.mk (blk_drew BK164.out)
    replace HB := Aside0.mk (below_drew1 HB.out)
    refine start_ (n := 7) (S := fun w' => w'.cell? ⟨gb164, 0, none⟩ = some (.slice Ao18 t160.length co18) ∧ w'.cell? ⟨gb164, 1, none⟩ = some (.int .i64 t163) ∧ w'.cell? ⟨gb158, 0, none⟩ = some (.int .i64 a1_0) ∧ w'.cell? ⟨gb158, 1, none⟩ = some (.int .i64 a1_1) ∧ w'.cell? ⟨gb158, 2, none⟩ = some (.int .i64 a1_2) ∧ w'.cell? ⟨gb158, 3, none⟩ = some (.slice A1_3 l1_3.length c1_3) ∧ w'.cell? ⟨gb158, 4, none⟩ = some (.slice A1_4 l1_4.length c1_4) ∧ w'.cell? ⟨gb158, 5, none⟩ = some (.slice A1_5 l1_5.length c1_5)) (ds := [6]) #[false, false, false, false, false, false, false] (by kernel_rfl) rfl rfl oH (fun hHeld => ?_)
    generalize w26.drew = w27 at HO162 BK157 BK158 BK159 BK164 HB hHeld ⊢
    refine pure_ (i := 0) (N := some 16) (v := ?_) (a' := ?_) #[true, false, false, false, false, false, false] rfl rfl (by kernel_rfl) (fun _ _ _ h => h) (Or.inl ⟨by rfl, ?_⟩) ?_ ?_
    rotate_left
    ·intro w'
     go_simp
     with_reducible rfl
    rotate_left
    ·simp only [Act.put, List.setIfInBounds_toArray, List.set_cons_zero, List.set_cons_succ, i64_w, i32_w]
     rfl
    refine pure_ (i := 2) (N := some 18) (v := ?_) (a' := ?_) #[true, false, true, false, false, false, false] rfl rfl (by kernel_rfl) (fun _ _ _ h => h) (Or.inl ⟨by rfl, ?_⟩) ?_ ?_
    rotate_left
    ·intro w'
     go_simp
     with_reducible rfl
    rotate_left
    ·simp only [Act.put, List.setIfInBounds_toArray, List.set_cons_zero, List.set_cons_succ, i64_w, i32_w]
     rfl
    refine take_ (i := 1) (N := some 17) (v := ?_) (a' := ?_) #[true, true, true, false, false, false, false] rfl rfl (by kernel_rfl) (fun _ _ _ h => h) (Or.inl ⟨by rfl, ?_⟩) hHeld ?_ ?_
    rotate_left
    ·rintro w' ⟨s0, s1, s2, s3, s4, s5, s6, s7⟩
     go_simp
     with_reducible rfl
    rotate_left
    ·simp only [Act.put, List.setIfInBounds_toArray, List.set_cons_zero, List.set_cons_succ, i64_w, i32_w]
     rfl
    refine take_ (i := 3) (N := some 19) (v := ?_) (a' := ?_) #[true, true, true, true, false, false, false] rfl rfl (by kernel_rfl) (fun _ _ _ h => h) (Or.inl ⟨by rfl, ?_⟩) hHeld ?_ ?_
    rotate_left
    ·rintro w' ⟨s0, s1, s2, s3, s4, s5, s6, s7⟩
     go_simp
     with_reducible rfl
    rotate_left
    ·simp only [Act.put, List.setIfInBounds_toArray, List.set_cons_zero, List.set_cons_succ, i64_w, i32_w]
     rfl
    refine one_ (i := 4) (N := some 20) #[true, true, true, true, true, false, false] rfl rfl (by kernel_rfl) (by decide) (fun K hK => ?_)
    refine gr_ 20 Try.func37 (spec_l3Copy.calls a1_0 a1_1 a1_2 _ _ l1_3 _ _ l1_4 _ _ l1_5 t166 t167 t168 t169 t172 t175 _ (kC HR1_3) HC1_3.out (kC HR1_4) HC1_4.out (kC HR1_5) HC1_5.out A6.out) ?_
    rintro e w28 ⟨v170, v173, v176, rfl, ho0, ho1, ho2, hb⟩
    obtain ⟨A170, c170, rfl⟩ := Kd.R_slice ho0
    obtain ⟨A173, c173, rfl⟩ := Kd.R_slice ho1
    obtain ⟨A176, c176, rfl⟩ := Kd.R_slice ho2
    refine ⟨_, rfl, ?_⟩
    have HO171 := Aside0.mk (Kd.R_lower (Kd.R_newM (M := fun k_ => (w.heap.size ≤ k_)) ho0 (below_size oB) (fun k_ h_ => h_)) (below_size oB))
    have HO174 := Aside0.mk (Kd.R_lower (Kd.R_newM (M := fun k_ => (w.heap.size ≤ k_)) ho1 (below_size oB) (fun k_ h_ => h_)) (below_size oB))
    have HO177 := Aside0.mk (Kd.R_lower (Kd.R_newM (M := fun k_ => (w.heap.size ≤ k_)) ho2 (below_size oB) (fun k_ h_ => h_)) (below_size oB))
    replace HO162 := Aside0.mk (Kd.N_mono (Kd.N_told (Kd.N_told (Kd.N_told (Kd.N_old (by (with_reducible repeat (first | apply Kd.N_alloc | apply Kd.N_drewN | apply Kd.N_drew)); exact HO162.out) hb) (Kd.R_base ho0)) (Kd.R_base ho1)) (Kd.R_base ho2)) (fun _ h_ => h_.1))
    replace BK157 := kb_ BK157 hb
    replace BK158 := kb_ BK158 hb
    replace BK159 := kb_ BK159 hb
    replace BK164 := kb_ BK164 hb
    replace HB := Aside0.mk (below_step oB hb)
    (try clear hk)
    (try clear ho1)
    (try clear ho2)
    have p9 : 0 ≤ (t165 : Int) := oa
    have q9 : (t165 : Int) < ((t160.length : Int) : Int) := oa
    obtain ⟨go9, co9, eo9, gb9, gl9, cl9, HG9⟩ := Kd.N_form HO162.out (by omega)
    (first | cases eo9 | (injection eo9 with ea_ en_ ec_; (first | subst ea_ | (injection ea_ with ea_; subst ea_)); subst ec_; clear en_))
    have GB9 := Aside0.mk gb9
    have GG9 := Aside0.mk HG9
    clear gb9 gl9 HG9
    obtain ⟨ce9, hcl9, hM9, hcc9, hfr9⟩ := Kd.N_elem HO162.out z40 (t165 : Int) p9 q9
    obtain ⟨ua9_3, uc9_3, ua9_4, uc9_4, ua9_5, uc9_5, rfl, ul9_3, ge9_3, ul9_4, ge9_4, ul9_5, ge9_5⟩ := k40_openF hM9
    have hx9_0 : World.cell? _ ⟨go9, (t165 : Int).toNat * 6, none⟩ = some (.int .i64 ((rd_T40 t160 t165).f0)) := hcc9 0 _ rfl
    have hx9_1 : World.cell? _ ⟨go9, (t165 : Int).toNat * 6 + 1, none⟩ = some (.int .i64 ((rd_T40 t160 t165).f1)) := hcc9 1 _ rfl
    have hx9_2 : World.cell? _ ⟨go9, (t165 : Int).toNat * 6 + 2, none⟩ = some (.int .i64 ((rd_T40 t160 t165).f2)) := hcc9 2 _ rfl
    have hx9_3 : World.cell? _ ⟨go9, (t165 : Int).toNat * 6 + 3, none⟩ = some (.slice ua9_3 ((rd_T40 t160 t165).f3).length uc9_3) := hcc9 3 _ rfl
    have hx9_4 : World.cell? _ ⟨go9, (t165 : Int).toNat * 6 + 4, none⟩ = some (.slice ua9_4 ((rd_T40 t160 t165).f4).length uc9_4) := hcc9 4 _ rfl
    have hx9_5 : World.cell? _ ⟨go9, (t165 : Int).toNat * 6 + 5, none⟩ = some (.slice ua9_5 ((rd_T40 t160 t165).f5).length uc9_5) := hcc9 5 _ rfl
    have hf9_0 : World.frozen? _ ⟨go9, (t165 : Int).toNat * 6, none⟩ = false := hfr9 0
    have hf9_1 : World.frozen? _ ⟨go9, (t165 : Int).toNat * 6 + 1, none⟩ = false := hfr9 1
    have hf9_2 : World.frozen? _ ⟨go9, (t165 : Int).toNat * 6 + 2, none⟩ = false := hfr9 2
    have hf9_3 : World.frozen? _ ⟨go9, (t165 : Int).toNat * 6 + 3, none⟩ = false := hfr9 3
    have hf9_4 : World.frozen? _ ⟨go9, (t165 : Int).toNat * 6 + 4, none⟩ = false := hfr9 4
    have hf9_5 : World.frozen? _ ⟨go9, (t165 : Int).toNat * 6 + 5, none⟩ = false := hfr9 5
    clear hcl9 hcc9 hfr9 hM9
    replace p9 := eq_true p9
    replace q9 := eq_true q9
    have HX29 := Aside0.mk (show Kd.N k40 40 _ w.heap.size (fun k_ => (w.heap.size ≤ k_) ∧ some k_ ≠ ((Value.slice A170 t169.length c170) : Value).ownBlock ∧ some k_ ≠ ((Value.slice A173 t172.length c173) : Value).ownBlock ∧ some k_ ≠ ((Value.slice A176 t175.length c176) : Value).ownBlock ∧ k_ ≠ gb157 ∧ k_ ≠ gb158 ∧ k_ ≠ gb159 ∧ k_ ≠ gb164) (.slice (some ⟨go9, 0, none⟩) t160.length co18) t160 from (Kd.N_mono (HO162.out) (fun k_ hk => ⟨hk.1.1.1.1.1, ⟨hk.1.1.2, ⟨hk.1.2, ⟨hk.2, ⟨hk.1.1.1.1.2.1, ⟨hk.1.1.1.1.2.2.1, ⟨hk.1.1.1.1.2.2.2, hk.1.1.1.2⟩⟩⟩⟩⟩⟩⟩)))
    replace HX29 := Aside0.mk (show Kd.N k40 40 _ w.heap.size (fun k_ => (w.heap.size ≤ k_) ∧ k_ ≠ gb157 ∧ k_ ≠ gb158 ∧ k_ ≠ gb159 ∧ k_ ≠ gb164) (.slice (some ⟨go9, 0, none⟩) t160.length co18) t160 from Kd.N_mono HX29.out (fun k_ hk => ⟨hk.1, ⟨hk.2.2.2.2.1, ⟨hk.2.2.2.2.2.1, ⟨hk.2.2.2.2.2.2.1, hk.2.2.2.2.2.2.2⟩⟩⟩⟩))
    obtain ⟨ce29, hcl29, hM29, hcc29, hfr29⟩ := Kd.N_elem HX29.out z40 (t165 : Int) oa (by have h_ : (t165 : Int) < ((t160.length : Int) : Int) := oa; first | exact h_ | (have e_ := (Kd.N_reads' HO162.out).1; omega) | simpa using h_)
    obtain ⟨ua29_3, uc29_3, ua29_4, uc29_4, ua29_5, uc29_5, rfl, ul29_3, ge29_3, ul29_4, ge29_4, ul29_5, ge29_5⟩ := k40_openF hM29
    have HP29 := (Kd.N_seg HX29.out (t165 : Int) oa (by have h_ : (t165 : Int) < ((t160.length : Int) : Int) := oa; first | exact h_ | (have e_ := (Kd.N_reads' HO162.out).1; omega) | simpa using h_) (seg := [.int .i64 t166, .int .i64 t167, .int .i64 t168, (Value.slice A170 t169.length c170), (Value.slice A173 t172.length c173), (Value.slice A176 t175.length c176)]) (j := 0) hcl29 hcc29 (show 6 ≤ 6 from by decide) (x' := (⟨t166, t167, t168, t169, t172, t175⟩ : S40)) (k40_mkF _ _ (⟨t166, t167, t168, t169, t172, t175⟩ : S40) (Kd.R_reads' (Kd.R_mono (ok' := (fun k_ => ((fun k_ => (w.heap.size ≤ k_) ∧ k_ ≠ gb157 ∧ k_ ≠ gb158 ∧ k_ ≠ gb159 ∧ k_ ≠ gb164)) k_ ∧ k_ ≠ go9)) (Kd.R_types (Kd.R_types (Kd.R_types (Kd.R_types (Kd.R_apart' (HO171.out) (Kd.N_typed HO162.out) (by decide)) BK157.out (by decide)) BK158.out (by decide)) BK159.out (by decide)) BK164.out (by decide)) (fun k_ hk => ⟨⟨hk.1.1.1.1.1.1, ⟨hk.1.1.1.2, ⟨hk.1.1.2, ⟨hk.1.2, hk.2⟩⟩⟩⟩, fun e_ => (hk.1.1.1.1.2) (by rw [e_]; rfl)⟩))).2.1 (Kd.R_F (Kd.R_mono (ok' := (fun k_ => ((fun k_ => (w.heap.size ≤ k_) ∧ k_ ≠ gb157 ∧ k_ ≠ gb158 ∧ k_ ≠ gb159 ∧ k_ ≠ gb164)) k_ ∧ k_ ≠ go9)) (Kd.R_types (Kd.R_types (Kd.R_types (Kd.R_types (Kd.R_apart' (HO171.out) (Kd.N_typed HO162.out) (by decide)) BK157.out (by decide)) BK158.out (by decide)) BK159.out (by decide)) BK164.out (by decide)) (fun k_ hk => ⟨⟨hk.1.1.1.1.1.1, ⟨hk.1.1.1.2, ⟨hk.1.1.2, ⟨hk.1.2, hk.2⟩⟩⟩⟩, fun e_ => (hk.1.1.1.1.2) (by rw [e_]; rfl)⟩))) (Kd.R_reads' (Kd.R_mono (ok' := (fun k_ => ((fun k_ => (w.heap.size ≤ k_) ∧ k_ ≠ gb157 ∧ k_ ≠ gb158 ∧ k_ ≠ gb159 ∧ k_ ≠ gb164)) k_ ∧ k_ ≠ go9)) (Kd.R_types (Kd.R_types (Kd.R_types (Kd.R_types (Kd.R_apart' (HO174.out) (Kd.N_typed HO162.out) (by decide)) BK157.out (by decide)) BK158.out (by decide)) BK159.out (by decide)) BK164.out (by decide)) (fun k_ hk => ⟨⟨hk.1.1.1.1.1.1, ⟨hk.1.1.1.2, ⟨hk.1.1.2, ⟨hk.1.2, hk.2⟩⟩⟩⟩, fun e_ => (hk.1.1.1.1.2) (by rw [e_]; rfl)⟩))).2.1 (Kd.R_F (Kd.R_mono (ok' := (fun k_ => ((fun k_ => (w.heap.size ≤ k_) ∧ k_ ≠ gb157 ∧ k_ ≠ gb158 ∧ k_ ≠ gb159 ∧ k_ ≠ gb164)) k_ ∧ k_ ≠ go9)) (Kd.R_types (Kd.R_types (Kd.R_types (Kd.R_types (Kd.R_apart' (HO174.out) (Kd.N_typed HO162.out) (by decide)) BK157.out (by decide)) BK158.out (by decide)) BK159.out (by decide)) BK164.out (by decide)) (fun k_ hk => ⟨⟨hk.1.1.1.1.1.1, ⟨hk.1.1.1.2, ⟨hk.1.1.2, ⟨hk.1.2, hk.2⟩⟩⟩⟩, fun e_ => (hk.1.1.1.1.2) (by rw [e_]; rfl)⟩))) (Kd.R_reads' (Kd.R_mono (ok' := (fun k_ => ((fun k_ => (w.heap.size ≤ k_) ∧ k_ ≠ gb157 ∧ k_ ≠ gb158 ∧ k_ ≠ gb159 ∧ k_ ≠ gb164)) k_ ∧ k_ ≠ go9)) (Kd.R_types (Kd.R_types (Kd.R_types (Kd.R_types (Kd.R_apart' (HO177.out) (Kd.N_typed HO162.out) (by decide)) BK157.out (by decide)) BK158.out (by decide)) BK159.out (by decide)) BK164.out (by decide)) (fun k_ hk => ⟨⟨hk.1.1.1.1.1.1, ⟨hk.1.1.1.2, ⟨hk.1.1.2, ⟨hk.1.2, hk.2⟩⟩⟩⟩, fun e_ => (hk.1.1.1.1.2) (by rw [e_]; rfl)⟩))).2.1 (Kd.R_F (Kd.R_mono (ok' := (fun k_ => ((fun k_ => (w.heap.size ≤ k_) ∧ k_ ≠ gb157 ∧ k_ ≠ gb158 ∧ k_ ≠ gb159 ∧ k_ ≠ gb164)) k_ ∧ k_ ≠ go9)) (Kd.R_types (Kd.R_types (Kd.R_types (Kd.R_types (Kd.R_apart' (HO177.out) (Kd.N_typed HO162.out) (by decide)) BK157.out (by decide)) BK158.out (by decide)) BK159.out (by decide)) BK164.out (by decide)) (fun k_ hk => ⟨⟨hk.1.1.1.1.1.1, ⟨hk.1.1.1.2, ⟨hk.1.1.2, ⟨hk.1.2, hk.2⟩⟩⟩⟩, fun e_ => (hk.1.1.1.1.2) (by rw [e_]; rfl)⟩)))) (fun _ hk => hk)).1
    rw [← Ny178.out] at HP29
    have HQ29 := Aside0.mk HP29
    clear hcl29 hcc29 hfr29 hM29 HP29
    refine hK.out _ _ oH (fun hHeld => ?_)
    clear hK K
    refine norm_ (a' := ?_) ?_ ?_
    rotate_left
    ·show Act.put _ (some 20) _ = _
     simp only [Act.put, List.setIfInBounds_toArray, List.set_cons_zero, List.set_cons_succ, i64_w, i32_w]
     rfl
    refine pure_ (i := 5) (N := some 21) (v := ?_) (a' := ?_) #[true, true, true, true, true, true, false] rfl rfl (by kernel_rfl) (fun _ _ _ h => h) (Or.inl ⟨by rfl, ?_⟩) ?_ ?_
    rotate_left
    ·intro w'
     go_simp
     with_reducible rfl
    rotate_left
    ·simp only [Act.put, List.setIfInBounds_toArray, List.set_cons_zero, List.set_cons_succ, i64_w, i32_w]
     rfl
    refine last_ (i := 6) (N := none) #[true, true, true, true, true, true, true] rfl rfl (by kernel_rfl) (by decide) (fun K hK => ?_)
    refine skip_ (w1 := ?_) (by rfl) rfl ?_ ?_
    rotate_left
    ·go_simp
     rfl
    refine hK.out _ _ ?_
    clear hK K
    refine done_ (by kernel_rfl) ?_
    have n0_ : Aside0 (Kd.N k40 40 ((((((w28.setCell ⟨go9, (t165 : Int).toNat * 6, none⟩ (.int .i64 t166)).setCell ⟨go9, (t165 : Int).toNat * 6 + 1, none⟩ (.int .i64 t167)).setCell ⟨go9, (t165 : Int).toNat * 6 + 2, none⟩ (.int .i64 t168)).setCell ⟨go9, (t165 : Int).toNat * 6 + 3, none⟩ ((Value.slice A170 t169.length c170))).setCell ⟨go9, (t165 : Int).toNat * 6 + 4, none⟩ ((Value.slice A173 t172.length c173))).setCell ⟨go9, (t165 : Int).toNat * 6 + 5, none⟩ ((Value.slice A176 t175.length c176))) w.heap.size (fun k_ => (w.heap.size ≤ k_) ∧ k_ ≠ gb157 ∧ k_ ≠ gb158 ∧ k_ ≠ gb159 ∧ k_ ≠ gb164) (.slice (some ⟨go9, 0, none⟩) t160.length co18) y178) := ⟨by (with_reducible repeat (first | apply Kd.N_alloc | apply Kd.N_drewN | apply Kd.N_drew)); exact HQ29.out⟩
    have n1_ : Aside0 (((((((w28.setCell ⟨go9, (t165 : Int).toNat * 6, none⟩ (.int .i64 t166)).setCell ⟨go9, (t165 : Int).toNat * 6 + 1, none⟩ (.int .i64 t167)).setCell ⟨go9, (t165 : Int).toNat * 6 + 2, none⟩ (.int .i64 t168)).setCell ⟨go9, (t165 : Int).toNat * 6 + 3, none⟩ ((Value.slice A170 t169.length c170))).setCell ⟨go9, (t165 : Int).toNat * 6 + 4, none⟩ ((Value.slice A173 t172.length c173))).setCell ⟨go9, (t165 : Int).toNat * 6 + 5, none⟩ ((Value.slice A176 t175.length c176))).heap[gb157]? = some (.cells #[.slice A0_0 l0_0.length c0_0, .int .i64 a0_1] 34 (0, 0))) := ⟨by (with_reducible repeat (first | refine blk_drewN ?_ _ | refine blk_drew ?_ | refine blk_alloc ?_ _)); refine blk_far ?_ (by have h_ := Kd.N_away HQ29.out (fun _ hk => hk.2.1); intro e_; exact h_ (by rw [e_]; rfl)) _; (with_reducible repeat (first | refine blk_drewN ?_ _ | refine blk_drew ?_ | refine blk_alloc ?_ _)); refine blk_far ?_ (by have h_ := Kd.N_away HQ29.out (fun _ hk => hk.2.1); intro e_; exact h_ (by rw [e_]; rfl)) _; (with_reducible repeat (first | refine blk_drewN ?_ _ | refine blk_drew ?_ | refine blk_alloc ?_ _)); refine blk_far ?_ (by have h_ := Kd.N_away HQ29.out (fun _ hk => hk.2.1); intro e_; exact h_ (by rw [e_]; rfl)) _; (with_reducible repeat (first | refine blk_drewN ?_ _ | refine blk_drew ?_ | refine blk_alloc ?_ _)); refine blk_far ?_ (by have h_ := Kd.N_away HQ29.out (fun _ hk => hk.2.1); intro e_; exact h_ (by rw [e_]; rfl)) _; (with_reducible repeat (first | refine blk_drewN ?_ _ | refine blk_drew ?_ | refine blk_alloc ?_ _)); refine blk_far ?_ (by have h_ := Kd.N_away HQ29.out (fun _ hk => hk.2.1); intro e_; exact h_ (by rw [e_]; rfl)) _; (with_reducible repeat (first | refine blk_drewN ?_ _ | refine blk_drew ?_ | refine blk_alloc ?_ _)); refine blk_far ?_ (by have h_ := Kd.N_away HQ29.out (fun _ hk => hk.2.1); intro e_; exact h_ (by rw [e_]; rfl)) _; (with_reducible repeat (first | refine blk_drewN ?_ _ | refine blk_drew ?_ | refine blk_alloc ?_ _)); exact BK157.out⟩
    have n2_ : Aside0 (((((((w28.setCell ⟨go9, (t165 : Int).toNat * 6, none⟩ (.int .i64 t166)).setCell ⟨go9, (t165 : Int).toNat * 6 + 1, none⟩ (.int .i64 t167)).setCell ⟨go9, (t165 : Int).toNat * 6 + 2, none⟩ (.int .i64 t168)).setCell ⟨go9, (t165 : Int).toNat * 6 + 3, none⟩ ((Value.slice A170 t169.length c170))).setCell ⟨go9, (t165 : Int).toNat * 6 + 4, none⟩ ((Value.slice A173 t172.length c173))).setCell ⟨go9, (t165 : Int).toNat * 6 + 5, none⟩ ((Value.slice A176 t175.length c176))).heap[gb158]? = some (.cells #[.int .i64 a1_0, .int .i64 a1_1, .int .i64 a1_2, .slice A1_3 l1_3.length c1_3, .slice A1_4 l1_4.length c1_4, .slice A1_5 l1_5.length c1_5] 40 (0, 0))) := ⟨by (with_reducible repeat (first | refine blk_drewN ?_ _ | refine blk_drew ?_ | refine blk_alloc ?_ _)); refine blk_far ?_ (by have h_ := Kd.N_away HQ29.out (fun _ hk => hk.2.2.1); intro e_; exact h_ (by rw [e_]; rfl)) _; (with_reducible repeat (first | refine blk_drewN ?_ _ | refine blk_drew ?_ | refine blk_alloc ?_ _)); refine blk_far ?_ (by have h_ := Kd.N_away HQ29.out (fun _ hk => hk.2.2.1); intro e_; exact h_ (by rw [e_]; rfl)) _; (with_reducible repeat (first | refine blk_drewN ?_ _ | refine blk_drew ?_ | refine blk_alloc ?_ _)); refine blk_far ?_ (by have h_ := Kd.N_away HQ29.out (fun _ hk => hk.2.2.1); intro e_; exact h_ (by rw [e_]; rfl)) _; (with_reducible repeat (first | refine blk_drewN ?_ _ | refine blk_drew ?_ | refine blk_alloc ?_ _)); refine blk_far ?_ (by have h_ := Kd.N_away HQ29.out (fun _ hk => hk.2.2.1); intro e_; exact h_ (by rw [e_]; rfl)) _; (with_reducible repeat (first | refine blk_drewN ?_ _ | refine blk_drew ?_ | refine blk_alloc ?_ _)); refine blk_far ?_ (by have h_ := Kd.N_away HQ29.out (fun _ hk => hk.2.2.1); intro e_; exact h_ (by rw [e_]; rfl)) _; (with_reducible repeat (first | refine blk_drewN ?_ _ | refine blk_drew ?_ | refine blk_alloc ?_ _)); refine blk_far ?_ (by have h_ := Kd.N_away HQ29.out (fun _ hk => hk.2.2.1); intro e_; exact h_ (by rw [e_]; rfl)) _; (with_reducible repeat (first | refine blk_drewN ?_ _ | refine blk_drew ?_ | refine blk_alloc ?_ _)); exact BK158.out⟩
    have n3_ : Aside0 (((((((w28.setCell ⟨go9, (t165 : Int).toNat * 6, none⟩ (.int .i64 t166)).setCell ⟨go9, (t165 : Int).toNat * 6 + 1, none⟩ (.int .i64 t167)).setCell ⟨go9, (t165 : Int).toNat * 6 + 2, none⟩ (.int .i64 t168)).setCell ⟨go9, (t165 : Int).toNat * 6 + 3, none⟩ ((Value.slice A170 t169.length c170))).setCell ⟨go9, (t165 : Int).toNat * 6 + 4, none⟩ ((Value.slice A173 t172.length c173))).setCell ⟨go9, (t165 : Int).toNat * 6 + 5, none⟩ ((Value.slice A176 t175.length c176))).heap[gb159]? = some (.cells #[.slice none 0 0, .int .i64 0] 34 (0, 0))) := ⟨by (with_reducible repeat (first | refine blk_drewN ?_ _ | refine blk_drew ?_ | refine blk_alloc ?_ _)); refine blk_far ?_ (by have h_ := Kd.N_away HQ29.out (fun _ hk => hk.2.2.2.1); intro e_; exact h_ (by rw [e_]; rfl)) _; (with_reducible repeat (first | refine blk_drewN ?_ _ | refine blk_drew ?_ | refine blk_alloc ?_ _)); refine blk_far ?_ (by have h_ := Kd.N_away HQ29.out (fun _ hk => hk.2.2.2.1); intro e_; exact h_ (by rw [e_]; rfl)) _; (with_reducible repeat (first | refine blk_drewN ?_ _ | refine blk_drew ?_ | refine blk_alloc ?_ _)); refine blk_far ?_ (by have h_ := Kd.N_away HQ29.out (fun _ hk => hk.2.2.2.1); intro e_; exact h_ (by rw [e_]; rfl)) _; (with_reducible repeat (first | refine blk_drewN ?_ _ | refine blk_drew ?_ | refine blk_alloc ?_ _)); refine blk_far ?_ (by have h_ := Kd.N_away HQ29.out (fun _ hk => hk.2.2.2.1); intro e_; exact h_ (by rw [e_]; rfl)) _; (with_reducible repeat (first | refine blk_drewN ?_ _ | refine blk_drew ?_ | refine blk_alloc ?_ _)); refine blk_far ?_ (by have h_ := Kd.N_away HQ29.out (fun _ hk => hk.2.2.2.1); intro e_; exact h_ (by rw [e_]; rfl)) _; (with_reducible repeat (first | refine blk_drewN ?_ _ | refine blk_drew ?_ | refine blk_alloc ?_ _)); refine blk_far ?_ (by have h_ := Kd.N_away HQ29.out (fun _ hk => hk.2.2.2.1); intro e_; exact h_ (by rw [e_]; rfl)) _; (with_reducible repeat (first | refine blk_drewN ?_ _ | refine blk_drew ?_ | refine blk_alloc ?_ _)); exact BK159.out⟩
    have n4_ : Aside0 (((((((w28.setCell ⟨go9, (t165 : Int).toNat * 6, none⟩ (.int .i64 t166)).setCell ⟨go9, (t165 : Int).toNat * 6 + 1, none⟩ (.int .i64 t167)).setCell ⟨go9, (t165 : Int).toNat * 6 + 2, none⟩ (.int .i64 t168)).setCell ⟨go9, (t165 : Int).toNat * 6 + 3, none⟩ ((Value.slice A170 t169.length c170))).setCell ⟨go9, (t165 : Int).toNat * 6 + 4, none⟩ ((Value.slice A173 t172.length c173))).setCell ⟨go9, (t165 : Int).toNat * 6 + 5, none⟩ ((Value.slice A176 t175.length c176))).heap[gb164]? = some (.cells #[.slice (some ⟨go9, 0, none⟩) t160.length co18, .int .i64 t163] 34 (0, 0))) := ⟨by (with_reducible repeat (first | refine blk_drewN ?_ _ | refine blk_drew ?_ | refine blk_alloc ?_ _)); refine blk_far ?_ (by have h_ := Kd.N_away HQ29.out (fun _ hk => hk.2.2.2.2); intro e_; exact h_ (by rw [e_]; rfl)) _; (with_reducible repeat (first | refine blk_drewN ?_ _ | refine blk_drew ?_ | refine blk_alloc ?_ _)); refine blk_far ?_ (by have h_ := Kd.N_away HQ29.out (fun _ hk => hk.2.2.2.2); intro e_; exact h_ (by rw [e_]; rfl)) _; (with_reducible repeat (first | refine blk_drewN ?_ _ | refine blk_drew ?_ | refine blk_alloc ?_ _)); refine blk_far ?_ (by have h_ := Kd.N_away HQ29.out (fun _ hk => hk.2.2.2.2); intro e_; exact h_ (by rw [e_]; rfl)) _; (with_reducible repeat (first | refine blk_drewN ?_ _ | refine blk_drew ?_ | refine blk_alloc ?_ _)); refine blk_far ?_ (by have h_ := Kd.N_away HQ29.out (fun _ hk => hk.2.2.2.2); intro e_; exact h_ (by rw [e_]; rfl)) _; (with_reducible repeat (first | refine blk_drewN ?_ _ | refine blk_drew ?_ | refine blk_alloc ?_ _)); refine blk_far ?_ (by have h_ := Kd.N_away HQ29.out (fun _ hk => hk.2.2.2.2); intro e_; exact h_ (by rw [e_]; rfl)) _; (with_reducible repeat (first | refine blk_drewN ?_ _ | refine blk_drew ?_ | refine blk_alloc ?_ _)); refine blk_far ?_ (by have h_ := Kd.N_away HQ29.out (fun _ hk => hk.2.2.2.2); intro e_; exact h_ (by rw [e_]; rfl)) _; (with_reducible repeat (first | refine blk_drewN ?_ _ | refine blk_drew ?_ | refine blk_alloc ?_ _)); exact BK164.out⟩
    have n5_ : Aside0 (Below w.heap.size w ((((((w28.setCell ⟨go9, (t165 : Int).toNat * 6, none⟩ (.int .i64 t166)).setCell ⟨go9, (t165 : Int).toNat * 6 + 1, none⟩ (.int .i64 t167)).setCell ⟨go9, (t165 : Int).toNat * 6 + 2, none⟩ (.int .i64 t168)).setCell ⟨go9, (t165 : Int).toNat * 6 + 3, none⟩ ((Value.slice A170 t169.length c170))).setCell ⟨go9, (t165 : Int).toNat * 6 + 4, none⟩ ((Value.slice A173 t172.length c173))).setCell ⟨go9, (t165 : Int).toNat * 6 + 5, none⟩ ((Value.slice A176 t175.length c176)))) := ⟨by repeat (first | (with_reducible first | exact HB.out | apply below_alloc | apply pw_below_drewN | apply below_drew1 | refine below_set ?_ GB9.out | refine below_set ?_ GB9.out | refine below_set ?_ GB9.out | refine below_set ?_ GB9.out | refine below_set ?_ GB9.out | refine below_set ?_ GB9.out | refine below_set ?_ GE157.out | refine below_set ?_ GE158.out | refine below_set ?_ GE159.out | refine below_set ?_ GE164.out) | exact HB.out)⟩
    (try clear HO162)
    (try clear BK157)
    (try clear BK158)
    (try clear BK159)
    (try clear BK164)
    (try clear HB)
    generalize ((((((w28.setCell ⟨go9, (t165 : Int).toNat * 6, none⟩ (.int .i64 t166)).setCell ⟨go9, (t165 : Int).toNat * 6 + 1, none⟩ (.int .i64 t167)).setCell ⟨go9, (t165 : Int).toNat * 6 + 2, none⟩ (.int .i64 t168)).setCell ⟨go9, (t165 : Int).toNat * 6 + 3, none⟩ ((Value.slice A170 t169.length c170))).setCell ⟨go9, (t165 : Int).toNat * 6 + 4, none⟩ ((Value.slice A173 t172.length c173))).setCell ⟨go9, (t165 : Int).toNat * 6 + 5, none⟩ ((Value.slice A176 t175.length c176))) = w30 at n0_ n1_ n2_ n3_ n4_ n5_ ⊢
    have HO162 := n0_
    have BK157 := n1_
    have BK158 := n2_
    have BK159 := n3_
    have BK164 := n4_
    have HB := n5_
    clear n0_ n1_ n2_ n3_ n4_ n5_
    obtain ⟨⟨_, _⟩, _, _⟩ := z2 BK164
    obtain ⟨⟨_, _⟩, _, _⟩ := z2 BK159
    try go_wp2
    refine bodyPost_ret (results_cell_row rfl _ _ gb159 34 #[.slice (some ⟨go9, 0, none⟩) t160.length co18, .int .i64 t163] (0, 0) _ rfl (by (with_reducible repeat (first | refine blk_drewN ?_ _ | refine blk_drew ?_ | refine blk_alloc ?_ _)); refine blk_put (cs := #[.slice (some ⟨go9, 0, none⟩) t160.length co18, .int .i64 0]) ?_ 1 _ rfl; (with_reducible repeat (first | refine blk_drewN ?_ _ | refine blk_drew ?_ | refine blk_alloc ?_ _)); refine blk_put (cs := #[.slice none 0 0, .int .i64 0]) ?_ 0 _ rfl; (with_reducible repeat (first | refine blk_drewN ?_ _ | refine blk_drew ?_ | refine blk_alloc ?_ _)); exact BK159.out) Try.underlying34 rfl (by kernel_rfl)) rfl ?_
    exact ⟨_, oE, by (with_reducible repeat (first | apply Kd.N_alloc | apply Kd.N_drewN | apply Kd.N_drew)); exact Kd.N_mono (Kd.N_far (p := ⟨gb159, 1, none⟩) (Kd.N_far (p := ⟨gb159, 0, none⟩) (Kd.N_mono HO162.out (fun k_ hk => (⟨hk, hk.2.2.2.1⟩ : _ ∧ k_ ≠ gb159))) (fun _ hk => hk.2) (.slice (some ⟨go9, 0, none⟩) t160.length co18)) (fun _ hk => hk.2) (.int .i64 t163)) (fun _ hk => hk.1.1), oB⟩
   ·cases H
  ·cases H
 ·have H' := Aside0.mk H
  clear H
  go_enter Try.func9, Try.ntmps9
  go_wp2_with (first | ((with_reducible refine gate_dst (N := 2) rfl ?_); refine bx_ 2 #[.slice A0_0 l0_0.length c0_0, .int .i64 a0_1] 34 ?_; intro gb157 hg w33 hbox hb; have BK157 := Aside0.mk (hbox); have GW157 := gs_ hg; have GE157 := gs_ hg; replace HB := Aside0.mk (below_step oB hb); clear hb hbox hg) | ((with_reducible refine gate_dst (N := 3) rfl ?_); refine bx_ 3 #[.int .i64 a1_0, .int .i64 a1_1, .int .i64 a1_2, .slice A1_3 l1_3.length c1_3, .slice A1_4 l1_4.length c1_4, .slice A1_5 l1_5.length c1_5] 40 ?_; intro gb158 hg w34 hbox hb; have BK158 := Aside0.mk (hbox); have GW158 := gs_ hg; have GE158 := gs_ hg; have NB157_158 := nl_ hg BK157; have NB158_157 := nr_ hg BK157; replace BK157 := kb_ BK157 hb; replace HB := Aside0.mk (below_step oB hb); clear hb hbox hg) | ((with_reducible refine gate_dst (N := 4) rfl ?_); refine bx_ 4 #[.slice none 0 0, .int .i64 0] 34 ?_; intro gb159 hg w35 hbox hb; have BK159 := Aside0.mk (hbox); have GW159 := gs_ hg; have GE159 := gs_ hg; have NB157_159 := nl_ hg BK157; have NB159_157 := nr_ hg BK157; have NB158_159 := nl_ hg BK158; have NB159_158 := nr_ hg BK158; replace BK157 := kb_ BK157 hb; replace BK158 := kb_ BK158 hb; replace HB := Aside0.mk (below_step oB hb); clear hb hbox hg; have hnb36 := NB157_158.out; have hnc36 := NB158_157.out; have hnb37 := NB157_159.out; have hnc37 := NB159_157.out; obtain ⟨⟨_, _⟩, _, _⟩ := z2 BK157) | ((with_reducible refine gate_callee (f := 35) rfl ?_); refine gl_ 9 Try.func35 (spec_l4Copy.calls k _ _ l0_0 a0_1 t160 t163 _ (kC HR0_0) HC0_0.out A3.out) ?_; rintro e w39 ⟨v161, rfl, ho0, hb⟩; refine ⟨_, rfl, ?_⟩; have HO162 := Aside0.mk (Kd.N_lower (Kd.N_mono (ok' := fun k_ => (w.heap.size ≤ k_) ∧ k_ ≠ gb157 ∧ k_ ≠ gb158 ∧ k_ ≠ gb159) (Kd.S_N (Kd.S_bound ho0)) (fun k_ hk_ => ⟨(Nat.le_trans (below_size oB) hk_.2.1), (Kd.freshB (g := gb157) (o := .cells #[.slice A0_0 l0_0.length c0_0, .int .i64 a0_1] 34 (0, 0)) (oF BK157) k_ hk_.2.1), (Kd.freshB (g := gb158) (o := .cells #[.int .i64 a1_0, .int .i64 a1_1, .int .i64 a1_2, .slice A1_3 l1_3.length c1_3, .slice A1_4 l1_4.length c1_4, .slice A1_5 l1_5.length c1_5] 40 (0, 0)) (oF BK158) k_ hk_.2.1), (Kd.freshB (g := gb159) (o := .cells #[.slice none 0 0, .int .i64 0] 34 (0, 0)) (oF BK159) k_ hk_.2.1)⟩)) (below_size oB)); replace BK157 := kb_ BK157 hb; replace BK158 := kb_ BK158 hb; replace BK159 := kb_ BK159 hb; replace HB := Aside0.mk (below_step oB hb)) | ((with_reducible refine gate_dst (N := 5) rfl ?_); refine bx_ 5 #[.slice none 0 0, .int .i64 0] 34 ?_; intro gb164 hg w40 hbox hb; have BK164 := Aside0.mk (hbox); have GW164 := gs_ hg; have GE164 := gs_ hg; have NB157_164 := nl_ hg BK157; have NB164_157 := nr_ hg BK157; have NB158_164 := nl_ hg BK158; have NB164_158 := nr_ hg BK158; have NB159_164 := nl_ hg BK159; have NB164_159 := nr_ hg BK159; replace HO162 := Aside0.mk (Kd.N_below (Kd.N_elderB (by (with_reducible repeat (first | apply Kd.N_alloc | apply Kd.N_drewN | apply Kd.N_drew)); exact HO162.out) gb164 (Nat.le_of_eq hg.symm)) hb); replace BK157 := kb_ BK157 hb; replace BK158 := kb_ BK158 hb; replace BK159 := kb_ BK159 hb; replace HB := Aside0.mk (below_step oB hb); clear hb hbox hg; obtain ⟨Ao41, co41, eo41⟩ := Kd.N_slice HO162.out; subst eo41; have hnb42 := NB164_157.out; have hnc42 := NB157_164.out; have hnb43 := NB164_158.out; have hnc43 := NB158_164.out; have hnb44 := NB164_159.out; have hnc44 := NB159_164.out; obtain ⟨⟨_, _⟩, _, _⟩ := z2 BK164; obtain ⟨⟨_, _⟩, _, _⟩ := z2 BK157; have hnb47 := NB158_159.out; have hnc47 := NB159_158.out; obtain ⟨⟨_, _, _, _, _, _⟩, _, _, _, _, _, _⟩ := z6 BK158) | ((with_reducible refine gate_callee (f := 36) rfl ?_); refine gl_ 13 Try.func36 (spec_l4At.calls k _ _ l0_0 a0_1 a1_0 t165 _ ?side1 HC0_0.out A4.out) ?_; (case side1 => exact Kd.C_below HR0_0.out oB); rintro e w49 ⟨rfl, hb⟩; refine ⟨_, rfl, ?_⟩; replace HO162 := Aside0.mk (Kd.N_below (by (with_reducible repeat (first | apply Kd.N_alloc | apply Kd.N_drewN | apply Kd.N_drew)); exact (Kd.N_mono (Kd.N_far (p := ⟨gb164, 1, none⟩) (Kd.N_far (p := ⟨gb164, 0, none⟩) (Kd.N_mono HO162.out (fun k_ hk => (⟨hk, hk.2⟩ : _ ∧ k_ ≠ gb164))) (fun _ hk => hk.2) (.slice Ao41 t160.length co41)) (fun _ hk => hk.2) (.int .i64 t163)) (fun _ h_ => h_.1))) hb); replace BK157 := Aside0.mk (blk_below (g := gb157) (o := .cells #[.slice A0_0 l0_0.length c0_0, .int .i64 a0_1] 34 (0, 0)) (by (with_reducible repeat (first | refine blk_drewN ?_ _ | refine blk_drew ?_ | refine blk_alloc ?_ _)); refine blk_far ?_ NB157_164.out _; (with_reducible repeat (first | refine blk_drewN ?_ _ | refine blk_drew ?_ | refine blk_alloc ?_ _)); refine blk_far ?_ NB157_164.out _; (with_reducible repeat (first | refine blk_drewN ?_ _ | refine blk_drew ?_ | refine blk_alloc ?_ _)); exact BK157.out) hb); replace BK158 := Aside0.mk (blk_below (g := gb158) (o := .cells #[.int .i64 a1_0, .int .i64 a1_1, .int .i64 a1_2, .slice A1_3 l1_3.length c1_3, .slice A1_4 l1_4.length c1_4, .slice A1_5 l1_5.length c1_5] 40 (0, 0)) (by (with_reducible repeat (first | refine blk_drewN ?_ _ | refine blk_drew ?_ | refine blk_alloc ?_ _)); refine blk_far ?_ NB158_164.out _; (with_reducible repeat (first | refine blk_drewN ?_ _ | refine blk_drew ?_ | refine blk_alloc ?_ _)); refine blk_far ?_ NB158_164.out _; (with_reducible repeat (first | refine blk_drewN ?_ _ | refine blk_drew ?_ | refine blk_alloc ?_ _)); exact BK158.out) hb); replace BK159 := Aside0.mk (blk_below (g := gb159) (o := .cells #[.slice none 0 0, .int .i64 0] 34 (0, 0)) (by (with_reducible repeat (first | refine blk_drewN ?_ _ | refine blk_drew ?_ | refine blk_alloc ?_ _)); refine blk_far ?_ NB159_164.out _; (with_reducible repeat (first | refine blk_drewN ?_ _ | refine blk_drew ?_ | refine blk_alloc ?_ _)); refine blk_far ?_ NB159_164.out _; (with_reducible repeat (first | refine blk_drewN ?_ _ | refine blk_drew ?_ | refine blk_alloc ?_ _)); exact BK159.out) hb); replace BK164 := Aside0.mk (blk_below (g := gb164) (o := .cells #[.slice Ao41 t160.length co41, .int .i64 t163] 34 (0, 0)) (by (with_reducible repeat (first | refine blk_drewN ?_ _ | refine blk_drew ?_ | refine blk_alloc ?_ _)); refine blk_put (cs := #[.slice Ao41 t160.length co41, .int .i64 0]) ?_ 1 _ rfl; (with_reducible repeat (first | refine blk_drewN ?_ _ | refine blk_drew ?_ | refine blk_alloc ?_ _)); refine blk_put (cs := #[.slice none 0 0, .int .i64 0]) ?_ 0 _ rfl; (with_reducible repeat (first | refine blk_drewN ?_ _ | refine blk_drew ?_ | refine blk_alloc ?_ _)); exact BK164.out) hb); replace HB := Aside0.mk (below_step oB hb); (try clear hk)))
  go_loopg [6] k (fun kq v6 w' => ∃ (x6_1 : Int), v6 = .int .i64 x6_1 ∧ Aside0 (spec_SetInode.l0 kq x6_1 l0_0 a0_1 a1_0 a1_1 a1_2 l1_3 l1_4 l1_5 t160 t163 = some (r1, r2)) ∧ Aside0 (kq ≤ k) ∧ Aside0 (Kd.N k40 40 w' w.heap.size (fun k_ => (w.heap.size ≤ k_) ∧ k_ ≠ gb157 ∧ k_ ≠ gb158 ∧ k_ ≠ gb159 ∧ k_ ≠ gb164) (.slice Ao41 t160.length co41) t160) ∧ Aside0 (w'.heap[gb157]? = some (.cells #[(.slice A0_0 l0_0.length c0_0), .int .i64 a0_1] 34 (0, 0))) ∧ Aside0 (w'.heap[gb158]? = some (.cells #[.int .i64 a1_0, .int .i64 a1_1, .int .i64 a1_2, (.slice A1_3 l1_3.length c1_3), (.slice A1_4 l1_4.length c1_4), (.slice A1_5 l1_5.length c1_5)] 40 (0, 0))) ∧ Aside0 (w'.heap[gb159]? = some (.cells #[(.slice none 0 0), .int .i64 0] 34 (0, 0))) ∧ Aside0 (w'.heap[gb164]? = some (.cells #[(.slice Ao41 t160.length co41), .int .i64 t163] 34 (0, 0))) ∧ Aside0 (Below w.heap.size w w'))
  case atStart => exact ⟨(0), oS, H', ⟨Nat.le_refl _⟩, ⟨by (with_reducible repeat (first | apply Kd.N_alloc | apply Kd.N_drewN | apply Kd.N_drew)); exact Kd.N_mono HO162.out (fun _ hk => ⟨hk.1.1, ⟨hk.1.2.1, ⟨hk.1.2.2.1, ⟨hk.1.2.2.2, hk.2⟩⟩⟩⟩)⟩, ⟨oF BK157⟩, ⟨oF BK158⟩, ⟨oF BK159⟩, ⟨oF BK164⟩, ⟨oB⟩⟩
  case round =>
   clear H'
   try clear c5b0
   obtain ⟨x6_1, rfl, HA, HK1, HO_165000, BK157, BK158, BK159, BK164, HB⟩ := hrel
   cases gk with
   | zero => exact absurd HA.out (by simp [spec_SetInode.l0])
   | succ k1 =>
    have H := HA.out
    clear HA
    simp only [spec_SetInode.l0] at H
    replace H := itD H
    rcases H with ⟨c50b0, H⟩ | ⟨c50b0, H⟩
    ·replace H := itD H
     rcases H with ⟨c51b0, H⟩ | ⟨c51b0, H⟩
     ·replace H := itD H
      rcases H with ⟨c52b0, H⟩ | ⟨c52b0, H⟩
      ·have H' := Aside0.mk H
       clear H
       try go_wp2
       replace HO_165000 := Aside0.mk (Kd.N_drew HO_165000.out)
       replace BK157 := Aside0.mk (blk_drew BK157.out)
       replace BK158 := Aside0.mk (blk_drew BK158.out)
       replace BK159 := Aside0.mk (blk_drew BK159.out)
       replace BK164 := Aside0.mk (blk_drew BK164.out)
       replace HB := Aside0.mk (below_drew1 HB.out)
       have p179 : (0 ≤ (x6_1 : Int)) = True := oT
       have q179 : (x6_1 < (l0_0.length : Int)) = True := oT
       obtain ⟨ad179, A179_3, c179_3, A179_4, c179_4, A179_5, c179_5, e179, hx179_0, hx179_1, hx179_2, hx179_3, hx179_4, hx179_5, hl179_3, hi179_3, hl179_4, hi179_4, hl179_5, hi179_5⟩ := at_T40 HR0_0.out x6_1 oa oa
       have hw179_5 := hx179_5
       have hw179_4 := hx179_4
       have hw179_3 := hx179_3
       have hw179_2 := hx179_2
       have hw179_1 := hx179_1
       have hw179_0 := hx179_0
       cases e179
       replace hx179_0 := cB HB hx179_0
       replace hx179_1 := cB HB hx179_1
       replace hx179_2 := cB HB hx179_2
       replace hx179_3 := cB HB hx179_3
       replace hx179_4 := cB HB hx179_4
       replace hx179_5 := cB HB hx179_5
       have HR179_3 := Aside0.mk hi179_3
       have HC179_3 := Aside0.mk hl179_3
       clear hi179_3 hl179_3
       have HR179_4 := Aside0.mk hi179_4
       have HC179_4 := Aside0.mk hl179_4
       clear hi179_4 hl179_4
       have HR179_5 := Aside0.mk hi179_5
       have HC179_5 := Aside0.mk hl179_5
       clear hi179_5 hl179_5
       refine start_ (n := 16) (S := fun w' => w'.cell? ⟨gb157, 0, none⟩ = some (.slice (some ad179) l0_0.length c0_0) ∧ w'.cell? ⟨gb157, 1, none⟩ = some (.int .i64 a0_1) ∧ w'.cell? ⟨gb158, 0, none⟩ = some (.int .i64 a1_0) ∧ w'.cell? ⟨gb158, 1, none⟩ = some (.int .i64 a1_1) ∧ w'.cell? ⟨gb158, 2, none⟩ = some (.int .i64 a1_2) ∧ w'.cell? ⟨gb158, 3, none⟩ = some (.slice A1_3 l1_3.length c1_3) ∧ w'.cell? ⟨gb158, 4, none⟩ = some (.slice A1_4 l1_4.length c1_4) ∧ w'.cell? ⟨gb158, 5, none⟩ = some (.slice A1_5 l1_5.length c1_5) ∧ w'.cell? (ad179.add ((x6_1).toNat * 6)) = some (.int .i64 ((rd_T40 l0_0 x6_1).f0)) ∧ w'.cell? ⟨(ad179.add ((x6_1).toNat * 6)).block, (ad179.add ((x6_1).toNat * 6)).off + 1, none⟩ = some (.int .i64 ((rd_T40 l0_0 x6_1).f1)) ∧ w'.cell? ⟨(ad179.add ((x6_1).toNat * 6)).block, (ad179.add ((x6_1).toNat * 6)).off + 2, none⟩ = some (.int .i64 ((rd_T40 l0_0 x6_1).f2)) ∧ w'.cell? ⟨(ad179.add ((x6_1).toNat * 6)).block, (ad179.add ((x6_1).toNat * 6)).off + 3, none⟩ = some (.slice A179_3 ((rd_T40 l0_0 x6_1).f3).length c179_3) ∧ w'.cell? ⟨(ad179.add ((x6_1).toNat * 6)).block, (ad179.add ((x6_1).toNat * 6)).off + 4, none⟩ = some (.slice A179_4 ((rd_T40 l0_0 x6_1).f4).length c179_4) ∧ w'.cell? ⟨(ad179.add ((x6_1).toNat * 6)).block, (ad179.add ((x6_1).toNat * 6)).off + 5, none⟩ = some (.slice A179_5 ((rd_T40 l0_0 x6_1).f5).length c179_5)) (ds := []) #[false, false, false, false, false, false, false, false, false, false, false, false, false, false, false, false] (by kernel_rfl) rfl rfl ⟨(blk_cell BK157.out 0).trans rfl, (blk_cell BK157.out 1).trans rfl, (blk_cell BK158.out 0).trans rfl, (blk_cell BK158.out 1).trans rfl, (blk_cell BK158.out 2).trans rfl, (blk_cell BK158.out 3).trans rfl, (blk_cell BK158.out 4).trans rfl, (blk_cell BK158.out 5).trans rfl, (cB HB hw179_0), (cB HB hw179_1), (cB HB hw179_2), (cB HB hw179_3), (cB HB hw179_4), (cB HB hw179_5)⟩ (fun hHeld => ?_); refine with_tabW spec_SetInode.tab7 spec_SetInode.bits7 (fun HT_ HW_ => ?_)
       generalize wr.drew = w53 at HO_165000 BK157 BK158 BK159 BK164 HB HR179_3 HR179_4 HR179_5 hx179_0 hx179_1 hx179_2 hx179_3 hx179_4 hx179_5 hHeld ⊢
       refine pure_ (i := 0) (N := some 23) (v := ?_) (a' := ?_) #[true, false, false, false, false, false, false, false, false, false, false, false, false, false, false, false] rfl rfl (any_of HT_.out (by kernel_rfl)) (fun _ _ _ h => h) (Or.inl ⟨by rfl, ?_⟩) ?_ ?_
       rotate_left
       ·intro w'
        go_simp
        with_reducible rfl
       rotate_left
       ·simp only [Act.put, List.setIfInBounds_toArray, List.set_cons_zero, List.set_cons_succ, i64_w, i32_w]
        rfl
       refine pure_ (i := 1) (N := some 24) (v := ?_) (a' := ?_) #[true, true, false, false, false, false, false, false, false, false, false, false, false, false, false, false] rfl rfl (any_of HT_.out (by kernel_rfl)) (fun _ _ _ h => h) (Or.inl ⟨by rfl, ?_⟩) ?_ ?_
       rotate_left
       ·intro w'
        go_simp
        with_reducible rfl
       rotate_left
       ·simp only [Act.put, List.setIfInBounds_toArray, List.set_cons_zero, List.set_cons_succ, i64_w, i32_w]
        rfl
       refine take_ (i := 2) (N := some 25) (v := ?_) (a' := ?_) #[true, true, true, false, false, false, false, false, false, false, false, false, false, false, false, false] rfl rfl (take_ofW HT_.out HW_.out (by kernel_rfl)) (fun _ _ _ h => h) (Or.inl ⟨by rfl, ?_⟩) hHeld ?_ ?_
       rotate_left
       ·rintro w' ⟨s0, s1, s2, s3, s4, s5, s6, s7, s8, s9, s10, s11, s12, s13⟩
        go_simp
        with_reducible rfl
       rotate_left
       ·simp only [Act.put, List.setIfInBounds_toArray, List.set_cons_zero, List.set_cons_succ, i64_w, i32_w]
        rfl
       refine pure_ (i := 3) (N := some 26) (v := ?_) (a' := ?_) #[true, true, true, true, false, false, false, false, false, false, false, false, false, false, false, false] rfl rfl (any_of HT_.out (by kernel_rfl)) (fun _ _ _ h => h) (Or.inl ⟨by rfl, ?_⟩) ?_ ?_
       rotate_left
       ·intro w'
        go_simp
        with_reducible rfl
       rotate_left
       ·simp only [Act.put, List.setIfInBounds_toArray, List.set_cons_zero, List.set_cons_succ, i64_w, i32_w]
        rfl
       refine pure_ (i := 4) (N := some 27) (v := ?_) (a' := ?_) #[true, true, true, true, true, false, false, false, false, false, false, false, false, false, false, false] rfl rfl (any_of HT_.out (by kernel_rfl)) (fun _ _ _ h => h) (Or.inl ⟨by rfl, ?_⟩) ?_ ?_
       rotate_left
       ·intro w'
        go_simp
        with_reducible rfl
       rotate_left
       ·simp only [Act.put, List.setIfInBounds_toArray, List.set_cons_zero, List.set_cons_succ, i64_w, i32_w]
        rfl
       refine pure_ (i := 5) (N := some 28) (v := ?_) (a' := ?_) #[true, true, true, true, true, true, false, false, false, false, false, false, false, false, false, false] rfl rfl (any_of HT_.out (by kernel_rfl)) (fun _ _ _ h => h) (Or.inl ⟨by rfl, ?_⟩) ?_ ?_
       rotate_left
       ·intro w'
        go_simp
        with_reducible rfl
       rotate_left
       ·simp only [Act.put, List.setIfInBounds_toArray, List.set_cons_zero, List.set_cons_succ, i64_w, i32_w]
        rfl
       refine pure_ (i := 6) (N := some 29) (v := ?_) (a' := ?_) #[true, true, true, true, true, true, true, false, false, false, false, false, false, false, false, false] rfl rfl (any_of HT_.out (by kernel_rfl)) (fun _ _ _ h => h) (Or.inl ⟨by rfl, ?_⟩) ?_ ?_
       rotate_left
       ·intro w'
        go_simp
        with_reducible rfl
       rotate_left
       ·simp only [Act.put, List.setIfInBounds_toArray, List.set_cons_zero, List.set_cons_succ, i64_w, i32_w]
        rfl
       refine pure_ (i := 8) (N := some 31) (v := ?_) (a' := ?_) #[true, true, true, true, true, true, true, false, true, false, false, false, false, false, false, false] rfl rfl (any_of HT_.out (by kernel_rfl)) (fun _ _ _ h => h) (Or.inl ⟨by rfl, ?_⟩) ?_ ?_
       rotate_left
       ·intro w'
        go_simp
        with_reducible rfl
       rotate_left
       ·simp only [Act.put, List.setIfInBounds_toArray, List.set_cons_zero, List.set_cons_succ, i64_w, i32_w]
        rfl
       refine pure_ (i := 12) (N := some 35) (v := ?_) (a' := ?_) #[true, true, true, true, true, true, true, false, true, false, false, false, true, false, false, false] rfl rfl (any_of HT_.out (by kernel_rfl)) (fun _ _ _ h => h) (Or.inl ⟨by rfl, ?_⟩) ?_ ?_
       rotate_left
       ·intro w'
        go_simp
        with_reducible rfl
       rotate_left
       ·simp only [Act.put, List.setIfInBounds_toArray, List.set_cons_zero, List.set_cons_succ, i64_w, i32_w]
        rfl
       refine take_ (i := 7) (N := some 30) (v := ?_) (a' := ?_) #[true, true, true, true, true, true, true, true, true, false, false, false, true, false, false, false] rfl rfl (take_ofW HT_.out HW_.out (by kernel_rfl)) (fun _ _ _ h => h) (Or.inl ⟨by rfl, ?_⟩) hHeld ?_ ?_
       rotate_left
       ·rintro w' ⟨s0, s1, s2, s3, s4, s5, s6, s7, s8, s9, s10, s11, s12, s13⟩
        go_simp
        with_reducible rfl
       rotate_left
       ·simp only [Act.put, List.setIfInBounds_toArray, List.set_cons_zero, List.set_cons_succ, i64_w, i32_w]
        rfl
       refine pure_ (i := 9) (N := some 32) (v := ?_) (a' := ?_) #[true, true, true, true, true, true, true, true, true, true, false, false, true, false, false, false] rfl rfl (any_of HT_.out (by kernel_rfl)) (fun _ _ _ h => h) (Or.inl ⟨by rfl, ?_⟩) ?_ ?_
       rotate_left
       ·intro w'
        go_simp
        with_reducible rfl
       rotate_left
       ·simp only [Act.put, List.setIfInBounds_toArray, List.set_cons_zero, List.set_cons_succ, i64_w, i32_w]
        rfl
       refine pure_ (i := 10) (N := some 33) (v := ?_) (a' := ?_) #[true, true, true, true, true, true, true, true, true, true, true, false, true, false, false, false] rfl rfl (any_of HT_.out (by kernel_rfl)) (fun _ _ _ h => h) (Or.inl ⟨by rfl, ?_⟩) ?_ ?_
       rotate_left
       ·intro w'
        go_simp
        with_reducible rfl
       rotate_left
       ·simp only [Act.put, List.setIfInBounds_toArray, List.set_cons_zero, List.set_cons_succ, i64_w, i32_w]
        rfl
       refine take_ (i := 11) (N := some 34) (v := ?_) (a' := ?_) #[true, true, true, true, true, true, true, true, true, true, true, true, true, false, false, false] rfl rfl (take_ofW HT_.out HW_.out (by kernel_rfl)) (fun _ _ _ h => h) (Or.inl ⟨by rfl, ?_⟩) hHeld ?_ ?_
       rotate_left
       ·rintro w' ⟨s0, s1, s2, s3, s4, s5, s6, s7, s8, s9, s10, s11, s12, s13⟩
        go_simp
        with_reducible rfl
       rotate_left
       ·simp only [Act.put, List.setIfInBounds_toArray, List.set_cons_zero, List.set_cons_succ, i64_w, i32_w]
        rfl
       refine take_ (i := 13) (N := some 36) (v := ?_) (a' := ?_) #[true, true, true, true, true, true, true, true, true, true, true, true, true, true, false, false] rfl rfl (take_ofW HT_.out HW_.out (by kernel_rfl)) (fun _ _ _ h => h) (Or.inl ⟨by rfl, ?_⟩) hHeld ?_ ?_
       rotate_left
       ·rintro w' ⟨s0, s1, s2, s3, s4, s5, s6, s7, s8, s9, s10, s11, s12, s13⟩
        go_simp
        with_reducible rfl
       rotate_left
       ·simp only [Act.put, List.setIfInBounds_toArray, List.set_cons_zero, List.set_cons_succ, i64_w, i32_w]
        rfl
       refine pure_ (i := 14) (N := some 37) (v := ?_) (a' := ?_) #[true, true, true, true, true, true, true, true, true, true, true, true, true, true, true, false] rfl rfl (any_of HT_.out (by kernel_rfl)) (fun _ _ _ h => h) (Or.inl ⟨by rfl, ?_⟩) ?_ ?_
       rotate_left
       ·intro w'
        go_simp
        with_reducible rfl
       rotate_left
       ·simp only [Act.put, List.setIfInBounds_toArray, List.set_cons_zero, List.set_cons_succ, i64_w, i32_w]
        rfl
       refine pure_ (i := 15) (N := some 38) (v := ?_) (a' := ?_) #[true, true, true, true, true, true, true, true, true, true, true, true, true, true, true, true] rfl rfl (any_of HT_.out (by kernel_rfl)) (fun _ _ _ h => h) (Or.inl ⟨by rfl, ?_⟩) ?_ ?_
       rotate_left
       ·intro w'
        go_simp
        with_reducible rfl
       rotate_left
       ·simp only [Act.put, List.setIfInBounds_toArray, List.set_cons_zero, List.set_cons_succ, i64_w, i32_w]
        rfl
       refine done_ (done_of HT_.out (by kernel_rfl)) ?_
       try go_wp2
       go_roundg k1
       case measure => have := HK1.out; omega
       case rel => exact ⟨(wrap64 (x6_1 + 1)), oS, H', ⟨by have := HK1.out; omega⟩, ⟨by (with_reducible repeat (first | apply Kd.N_alloc | apply Kd.N_drewN | apply Kd.N_drew)); exact HO_165000.out⟩, ⟨oF BK157⟩, ⟨oF BK158⟩, ⟨oF BK159⟩, ⟨oF BK164⟩, ⟨oB⟩⟩
      ·obtain ⟨y180, hy180⟩ : ∃ y_ : List (S40), y_ = (([] : List (S40))) := ⟨_, rfl⟩
       replace H : (if x6_1 ≤ (t160.length : Int) then ((some (t160.take (x6_1 : Int).toNat : List (S40))).bind fun y183 => (if y180.length + y183.length < 1466015503701 then ((some (y180 ++ y183 : List (S40))).bind fun y188 => ((spec_l3Copy.f a1_0 a1_1 a1_2 l1_3 l1_4 l1_5).bind fun bt191 => (if y188.length < 1466015503701 then ((some (y188 ++ [(⟨bt191.1, bt191.2.1, bt191.2.2.1, bt191.2.2.2.1, bt191.2.2.2.2.1, bt191.2.2.2.2.2⟩ : S40)] : List (S40))).bind fun y203 => ((some (t160.drop (x6_1 : Int).toNat : List (S40))).bind fun y206 => (if y203.length + y206.length < 1466015503701 then (some ((y203 ++ y206), t163)) else (none)))) else (none)))) else (none))) else (none)) = some (r1, r2) := by first | (rw [hy180]; with_reducible exact H) | (have H2_ := (Option.bind_some _ _).symm.trans H; rw [hy180]; with_reducible exact H2_) | (have H2_ := (Option.bind_some _ _).symm.trans H; with_reducible exact H2_) | with_reducible exact H | (rw [hy180]; exact H) | exact H
       have Ny180 := Aside0.mk hy180
       clear hy180
       have c54b0 := eq_true (oa : 0 ≤ x6_1)
       by_cases c55 : x6_1 ≤ (t160.length : Int)
       ·rw [if_pos c55] at H
        have c55b0 := eq_true c55
        have c55b1 : decide (x6_1 ≤ (t160.length : Int)) = true := decide_eq_true c55
        clear c55
        obtain ⟨y183, hy183⟩ : ∃ y_ : List (S40), y_ = (t160.take (x6_1 : Int).toNat) := ⟨_, rfl⟩
        replace H : (if y180.length + y183.length < 1466015503701 then ((some (y180 ++ y183 : List (S40))).bind fun y188 => ((spec_l3Copy.f a1_0 a1_1 a1_2 l1_3 l1_4 l1_5).bind fun bt191 => (if y188.length < 1466015503701 then ((some (y188 ++ [(⟨bt191.1, bt191.2.1, bt191.2.2.1, bt191.2.2.2.1, bt191.2.2.2.2.1, bt191.2.2.2.2.2⟩ : S40)] : List (S40))).bind fun y203 => ((some (t160.drop (x6_1 : Int).toNat : List (S40))).bind fun y206 => (if y203.length + y206.length < 1466015503701 then (some ((y203 ++ y206), t163)) else (none)))) else (none)))) else (none)) = some (r1, r2) := by first | (rw [hy183]; with_reducible exact H) | (have H2_ := (Option.bind_some _ _).symm.trans H; rw [hy183]; with_reducible exact H2_) | (have H2_ := (Option.bind_some _ _).symm.trans H; with_reducible exact H2_) | with_reducible exact H | (rw [hy183]; exact H) | exact H
        have Ny183 := Aside0.mk hy183
        clear hy183
        by_cases c56 : y180.length + y183.length < 1466015503701
        ·rw [if_pos c56] at H
         have LMc56 := Aside0.mk c56
         clear c56
         obtain ⟨y188, hy188⟩ : ∃ y_ : List (S40), y_ = (y180 ++ y183) := ⟨_, rfl⟩
         replace H : ((spec_l3Copy.f a1_0 a1_1 a1_2 l1_3 l1_4 l1_5).bind fun bt191 => (if y188.length < 1466015503701 then ((some (y188 ++ [(⟨bt191.1, bt191.2.1, bt191.2.2.1, bt191.2.2.2.1, bt191.2.2.2.2.1, bt191.2.2.2.2.2⟩ : S40)] : List (S40))).bind fun y203 => ((some (t160.drop (x6_1 : Int).toNat : List (S40))).bind fun y206 => (if y203.length + y206.length < 1466015503701 then (some ((y203 ++ y206), t163)) else (none)))) else (none))) = some (r1, r2) := by first | (rw [hy188]; with_reducible exact H) | (have H2_ := (Option.bind_some _ _).symm.trans H; rw [hy188]; with_reducible exact H2_) | (have H2_ := (Option.bind_some _ _).symm.trans H; with_reducible exact H2_) | with_reducible exact H | (rw [hy188]; exact H) | exact H
         have Ny188 := Aside0.mk hy188
         clear hy188
         replace H := bA H
         obtain ⟨⟨t191, t192, t193, t194, t197, t200⟩, A57, H⟩ := H
         try dsimp only at H
         by_cases c58 : y188.length < 1466015503701
         ·rw [if_pos c58] at H
          have LMc58 := Aside0.mk c58
          clear c58
          obtain ⟨y203, hy203⟩ : ∃ y_ : List (S40), y_ = (y188 ++ [(⟨t191, t192, t193, t194, t197, t200⟩ : S40)]) := ⟨_, rfl⟩
          replace H : ((some (t160.drop (x6_1 : Int).toNat : List (S40))).bind fun y206 => (if y203.length + y206.length < 1466015503701 then (some ((y203 ++ y206), t163)) else (none))) = some (r1, r2) := by first | (rw [hy203]; with_reducible exact H) | (have H2_ := (Option.bind_some _ _).symm.trans H; rw [hy203]; with_reducible exact H2_) | (have H2_ := (Option.bind_some _ _).symm.trans H; with_reducible exact H2_) | with_reducible exact H | (rw [hy203]; exact H) | exact H
          have Ny203 := Aside0.mk hy203
          clear hy203
          have c59b0 := eq_true (oa : 0 ≤ x6_1)
          have c60b0 := eq_true (oa : x6_1 ≤ (t160.length : Int))
          obtain ⟨y206, hy206⟩ : ∃ y_ : List (S40), y_ = (t160.drop (x6_1 : Int).toNat) := ⟨_, rfl⟩
          replace H : (if y203.length + y206.length < 1466015503701 then (some ((y203 ++ y206), t163)) else (none)) = some (r1, r2) := by first | (rw [hy206]; with_reducible exact H) | (have H2_ := (Option.bind_some _ _).symm.trans H; rw [hy206]; with_reducible exact H2_) | (have H2_ := (Option.bind_some _ _).symm.trans H; with_reducible exact H2_) | with_reducible exact H | (rw [hy206]; exact H) | exact H
          have Ny206 := Aside0.mk hy206
          clear hy206
          by_cases c61 : y203.length + y206.length < 1466015503701
          ·rw [if_pos c61] at H
           have LMc61 := Aside0.mk c61
           clear c61
           obtain ⟨y211, hy211⟩ : ∃ y_ : List (S40), y_ = (y203 ++ y206) := ⟨_, rfl⟩
           replace H : (some (y211, t163)) = some (r1, r2) := by first | (rw [hy211]; with_reducible exact H) | (have H2_ := (Option.bind_some _ _).symm.trans H; rw [hy211]; with_reducible exact H2_) | (have H2_ := (Option.bind_some _ _).symm.trans H; with_reducible exact H2_) | with_reducible exact H | (rw [hy211]; exact H) | exact H
           have Ny211 := Aside0.mk hy211
           clear hy211
           simp only [Option.some.injEq, Prod.mk.injEq] at H
           obtain ⟨rfl, rfl⟩ := H
           try go_wp2
           replace HO_165000 := Aside0.mk (Kd.N_drew HO_165000.out)
           replace BK157 := Aside0.mk (blk_drew BK157.out)
           replace BK158 := Aside0.mk (blk_drew BK158.out)
           replace BK159 := Aside0.mk (blk_drew BK159.out)
           replace BK164 := Aside0.mk (blk_drew BK164.out)
           replace HB := Aside0.mk (below_drew1 HB.out)
           have p179 : (0 ≤ (x6_1 : Int)) = True := oT
           have q179 : (x6_1 < (l0_0.length : Int)) = True := oT
           obtain ⟨ad179, A179_3, c179_3, A179_4, c179_4, A179_5, c179_5, e179, hx179_0, hx179_1, hx179_2, hx179_3, hx179_4, hx179_5, hl179_3, hi179_3, hl179_4, hi179_4, hl179_5, hi179_5⟩ := at_T40 HR0_0.out x6_1 oa oa
           have hw179_5 := hx179_5
           have hw179_4 := hx179_4
           have hw179_3 := hx179_3
           have hw179_2 := hx179_2
           have hw179_1 := hx179_1
           have hw179_0 := hx179_0
           cases e179
           replace hx179_0 := cB HB hx179_0
           replace hx179_1 := cB HB hx179_1
           replace hx179_2 := cB HB hx179_2
           replace hx179_3 := cB HB hx179_3
           replace hx179_4 := cB HB hx179_4
           replace hx179_5 := cB HB hx179_5
           have HR179_3 := Aside0.mk hi179_3
           have HC179_3 := Aside0.mk hl179_3
           clear hi179_3 hl179_3
           have HR179_4 := Aside0.mk hi179_4
           have HC179_4 := Aside0.mk hl179_4
           clear hi179_4 hl179_4
           have HR179_5 := Aside0.mk hi179_5
           have HC179_5 := Aside0.mk hl179_5
           clear hi179_5 hl179_5
           refine start_ (n := 16) (S := fun w' => w'.cell? ⟨gb157, 0, none⟩ = some (.slice (some ad179) l0_0.length c0_0) ∧ w'.cell? ⟨gb157, 1, none⟩ = some (.int .i64 a0_1) ∧ w'.cell? ⟨gb158, 0, none⟩ = some (.int .i64 a1_0) ∧ w'.cell? ⟨gb158, 1, none⟩ = some (.int .i64 a1_1) ∧ w'.cell? ⟨gb158, 2, none⟩ = some (.int .i64 a1_2) ∧ w'.cell? ⟨gb158, 3, none⟩ = some (.slice A1_3 l1_3.length c1_3) ∧ w'.cell? ⟨gb158, 4, none⟩ = some (.slice A1_4 l1_4.length c1_4) ∧ w'.cell? ⟨gb158, 5, none⟩ = some (.slice A1_5 l1_5.length c1_5) ∧ w'.cell? (ad179.add ((x6_1).toNat * 6)) = some (.int .i64 ((rd_T40 l0_0 x6_1).f0)) ∧ w'.cell? ⟨(ad179.add ((x6_1).toNat * 6)).block, (ad179.add ((x6_1).toNat * 6)).off + 1, none⟩ = some (.int .i64 ((rd_T40 l0_0 x6_1).f1)) ∧ w'.cell? ⟨(ad179.add ((x6_1).toNat * 6)).block, (ad179.add ((x6_1).toNat * 6)).off + 2, none⟩ = some (.int .i64 ((rd_T40 l0_0 x6_1).f2)) ∧ w'.cell? ⟨(ad179.add ((x6_1).toNat * 6)).block, (ad179.add ((x6_1).toNat * 6)).off + 3, none⟩ = some (.slice A179_3 ((rd_T40 l0_0 x6_1).f3).length c179_3) ∧ w'.cell? ⟨(ad179.add ((x6_1).toNat * 6)).block, (ad179.add ((x6_1).toNat * 6)).off + 4, none⟩ = some (.slice A179_4 ((rd_T40 l0_0 x6_1).f4).length c179_4) ∧ w'.cell? ⟨(ad179.add ((x6_1).toNat * 6)).block, (ad179.add ((x6_1).toNat * 6)).off + 5, none⟩ = some (.slice A179_5 ((rd_T40 l0_0 x6_1).f5).length c179_5)) (ds := []) #[false, false, false, false, false, false, false, false, false, false, false, false, false, false, false, false] (by kernel_rfl) rfl rfl ⟨(blk_cell BK157.out 0).trans rfl, (blk_cell BK157.out 1).trans rfl, (blk_cell BK158.out 0).trans rfl, (blk_cell BK158.out 1).trans rfl, (blk_cell BK158.out 2).trans rfl, (blk_cell BK158.out 3).trans rfl, (blk_cell BK158.out 4).trans rfl, (blk_cell BK158.out 5).trans rfl, (cB HB hw179_0), (cB HB hw179_1), (cB HB hw179_2), (cB HB hw179_3), (cB HB hw179_4), (cB HB hw179_5)⟩ (fun hHeld => ?_); refine with_tabW spec_SetInode.tab7 spec_SetInode.bits7 (fun HT_ HW_ => ?_)
           generalize wr.drew = w62 at HO_165000 BK157 BK158 BK159 BK164 HB HR179_3 HR179_4 HR179_5 hx179_0 hx179_1 hx179_2 hx179_3 hx179_4 hx179_5 hHeld ⊢
           refine pure_ (i := 0) (N := some 23) (v := ?_) (a' := ?_) #[true, false, false, false, false, false, false, false, false, false, false, false, false, false, false, false] rfl rfl (any_of HT_.out (by kernel_rfl)) (fun _ _ _ h => h) (Or.inl ⟨by rfl, ?_⟩) ?_ ?_
           rotate_left
           ·intro w'
            go_simp
            with_reducible rfl
           rotate_left
           ·simp only [Act.put, List.setIfInBounds_toArray, List.set_cons_zero, List.set_cons_succ, i64_w, i32_w]
            rfl
           refine pure_ (i := 1) (N := some 24) (v := ?_) (a' := ?_) #[true, true, false, false, false, false, false, false, false, false, false, false, false, false, false, false] rfl rfl (any_of HT_.out (by kernel_rfl)) (fun _ _ _ h => h) (Or.inl ⟨by rfl, ?_⟩) ?_ ?_
           rotate_left
           ·intro w'
            go_simp
            with_reducible rfl
           rotate_left
           ·simp only [Act.put, List.setIfInBounds_toArray, List.set_cons_zero, List.set_cons_succ, i64_w, i32_w]
            rfl
           refine take_ (i := 2) (N := some 25) (v := ?_) (a' := ?_) #[true, true, true, false, false, false, false, false, false, false, false, false, false, false, false, false] rfl rfl (take_ofW HT_.out HW_.out (by kernel_rfl)) (fun _ _ _ h => h) (Or.inl ⟨by rfl, ?_⟩) hHeld ?_ ?_
           rotate_left
           ·rintro w' ⟨s0, s1, s2, s3, s4, s5, s6, s7, s8, s9, s10, s11, s12, s13⟩
            go_simp
            with_reducible rfl
           rotate_left
           ·simp only [Act.put, List.setIfInBounds_toArray, List.set_cons_zero, List.set_cons_succ, i64_w, i32_w]
            rfl
           refine pure_ (i := 3) (N := some 26) (v := ?_) (a' := ?_) #[true, true, true, true, false, false, false, false, false, false, false, false, false, false, false, false] rfl rfl (any_of HT_.out (by kernel_rfl)) (fun _ _ _ h => h) (Or.inl ⟨by rfl, ?_⟩) ?_ ?_
           rotate_left
           ·intro w'
            go_simp
            with_reducible rfl
           rotate_left
           ·simp only [Act.put, List.setIfInBounds_toArray, List.set_cons_zero, List.set_cons_succ, i64_w, i32_w]
            rfl
           refine pure_ (i := 4) (N := some 27) (v := ?_) (a' := ?_) #[true, true, true, true, true, false, false, false, false, false, false, false, false, false, false, false] rfl rfl (any_of HT_.out (by kernel_rfl)) (fun _ _ _ h => h) (Or.inl ⟨by rfl, ?_⟩) ?_ ?_
           rotate_left
           ·intro w'
            go_simp
            with_reducible rfl
           rotate_left
           ·simp only [Act.put, List.setIfInBounds_toArray, List.set_cons_zero, List.set_cons_succ, i64_w, i32_w]
            rfl
           refine pure_ (i := 5) (N := some 28) (v := ?_) (a' := ?_) #[true, true, true, true, true, true, false, false, false, false, false, false, false, false, false, false] rfl rfl (any_of HT_.out (by kernel_rfl)) (fun _ _ _ h => h) (Or.inl ⟨by rfl, ?_⟩) ?_ ?_
           rotate_left
           ·intro w'
            go_simp
            with_reducible rfl
           rotate_left
           ·simp only [Act.put, List.setIfInBounds_toArray, List.set_cons_zero, List.set_cons_succ, i64_w, i32_w]
            rfl
           refine pure_ (i := 6) (N := some 29) (v := ?_) (a' := ?_) #[true, true, true, true, true, true, true, false, false, false, false, false, false, false, false, false] rfl rfl (any_of HT_.out (by kernel_rfl)) (fun _ _ _ h => h) (Or.inl ⟨by rfl, ?_⟩) ?_ ?_
           rotate_left
           ·intro w'
            go_simp
            with_reducible rfl
           rotate_left
           ·simp only [Act.put, List.setIfInBounds_toArray, List.set_cons_zero, List.set_cons_succ, i64_w, i32_w]
            rfl
           refine pure_ (i := 8) (N := some 31) (v := ?_) (a' := ?_) #[true, true, true, true, true, true, true, false, true, false, false, false, false, false, false, false] rfl rfl (any_of HT_.out (by kernel_rfl)) (fun _ _ _ h => h) (Or.inl ⟨by rfl, ?_⟩) ?_ ?_
           rotate_left
           ·intro w'
            go_simp
            with_reducible rfl
           rotate_left
           ·simp only [Act.put, List.setIfInBounds_toArray, List.set_cons_zero, List.set_cons_succ, i64_w, i32_w]
            rfl
           refine pure_ (i := 12) (N := some 35) (v := ?_) (a' := ?_) #[true, true, true, true, true, true, true, false, true, false, false, false, true, false, false, false] rfl rfl (any_of HT_.out (by kernel_rfl)) (fun _ _ _ h => h) (Or.inl ⟨by rfl, ?_⟩) ?_ ?_
           rotate_left
           ·intro w'
            go_simp
            with_reducible rfl
           rotate_left
           ·simp only [Act.put, List.setIfInBounds_toArray, List.set_cons_zero, List.set_cons_succ, i64_w, i32_w]
            rfl
           refine take_ (i := 7) (N := some 30) (v := ?_) (a' := ?_) #[true, true, true, true, true, true, true, true, true, false, false, false, true, false, false, false] rfl rfl (take_ofW HT_.out HW_.out (by kernel_rfl)) (fun _ _ _ h => h) (Or.inl ⟨by rfl, ?_⟩) hHeld ?_ ?_
           rotate_left
           ·rintro w' ⟨s0, s1, s2, s3, s4, s5, s6, s7, s8, s9, s10, s11, s12, s13⟩
            go_simp
            with_reducible rfl
           rotate_left
           ·simp only [Act.put, List.setIfInBounds_toArray, List.set_cons_zero, List.set_cons_succ, i64_w, i32_w]
            rfl
           refine pure_ (i := 9) (N := some 32) (v := ?_) (a' := ?_) #[true, true, true, true, true, true, true, true, true, true, false, false, true, false, false, false] rfl rfl (any_of HT_.out (by kernel_rfl)) (fun _ _ _ h => h) (Or.inl ⟨by rfl, ?_⟩) ?_ ?_
           rotate_left
           ·intro w'
            go_simp
            with_reducible rfl
           rotate_left
           ·simp only [Act.put, List.setIfInBounds_toArray, List.set_cons_zero, List.set_cons_succ, i64_w, i32_w]
            rfl
           refine pure_ (i := 10) (N := some 33) (v := ?_) (a' := ?_) #[true, true, true, true, true, true, true, true, true, true, true, false, true, false, false, false] rfl rfl (any_of HT_.out (by kernel_rfl)) (fun _ _ _ h => h) (Or.inl ⟨by rfl, ?_⟩) ?_ ?_
           rotate_left
           ·intro w'
            go_simp
            with_reducible rfl
           rotate_left
           ·simp only [Act.put, List.setIfInBounds_toArray, List.set_cons_zero, List.set_cons_succ, i64_w, i32_w]
            rfl
           refine take_ (i := 11) (N := some 34) (v := ?_) (a' := ?_) #[true, true, true, true, true, true, true, true, true, true, true, true, true, false, false, false] rfl rfl (take_ofW HT_.out HW_.out (by kernel_rfl)) (fun _ _ _ h => h) (Or.inl ⟨by rfl, ?_⟩) hHeld ?_ ?_
           rotate_left
           ·rintro w' ⟨s0, s1, s2, s3, s4, s5, s6, s7, s8, s9, s10, s11, s12, s13⟩
            go_simp
            with_reducible rfl
           rotate_left
           ·simp only [Act.put, List.setIfInBounds_toArray, List.set_cons_zero, List.set_cons_succ, i64_w, i32_w]
            rfl
           refine take_ (i := 13) (N := some 36) (v := ?_) (a' := ?_) #[true, true, true, true, true, true, true, true, true, true, true, true, true, true, false, false] rfl rfl (take_ofW HT_.out HW_.out (by kernel_rfl)) (fun _ _ _ h => h) (Or.inl ⟨by rfl, ?_⟩) hHeld ?_ ?_
           rotate_left
           ·rintro w' ⟨s0, s1, s2, s3, s4, s5, s6, s7, s8, s9, s10, s11, s12, s13⟩
            go_simp
            with_reducible rfl
           rotate_left
           ·simp only [Act.put, List.setIfInBounds_toArray, List.set_cons_zero, List.set_cons_succ, i64_w, i32_w]
            rfl
           refine pure_ (i := 14) (N := some 37) (v := ?_) (a' := ?_) #[true, true, true, true, true, true, true, true, true, true, true, true, true, true, true, false] rfl rfl (any_of HT_.out (by kernel_rfl)) (fun _ _ _ h => h) (Or.inl ⟨by rfl, ?_⟩) ?_ ?_
           rotate_left
           ·intro w'
            go_simp
            with_reducible rfl
           rotate_left
           ·simp only [Act.put, List.setIfInBounds_toArray, List.set_cons_zero, List.set_cons_succ, i64_w, i32_w]
            rfl
           refine pure_ (i := 15) (N := some 38) (v := ?_) (a' := ?_) #[true, true, true, true, true, true, true, true, true, true, true, true, true, true, true, true] rfl rfl (any_of HT_.out (by kernel_rfl)) (fun _ _ _ h => h) (Or.inl ⟨by rfl, ?_⟩) ?_ ?_
           rotate_left
           ·intro w'
            go_simp
            with_reducible rfl
           rotate_left
           ·simp only [Act.put, List.setIfInBounds_toArray, List.set_cons_zero, List.set_cons_succ, i64_w, i32_w]
            rfl
           refine done_ (done_of HT_.out (by kernel_rfl)) ?_
           try go_wp2
           replace HO_165000 := Aside0.mk (Kd.N_drew HO_165000.out)
           replace BK157 := Aside0.mk (blk_drew BK157.out)
           replace BK158 := Aside0.mk (blk_drew BK158.out)
           replace BK159 := Aside0.mk (blk_drew BK159.out)
           replace BK164 := Aside0.mk (blk_drew BK164.out)
           replace HB := Aside0.mk (below_drew1 HB.out)
           have q64 : (x6_1 : Int) ≤ ((t160.length : Int) : Int) := oa
           obtain ⟨i064, hi064, _, hsz64, _⟩ := info_parts info40
           have hroom64 : t160.length ≤ co41 := (Kd.N_reads' HO_165000.out).2.1
           have hC64 : Kd.F k40 _ _ Ao41 t160.length t160 := (Kd.V_at (base := w.heap.size) (Kd.N_V HO_165000.out)).2.2
           have hcut64 := cut_to (P := Try.prog) 32 40 .i64 Try.underlying32 hi064 Ao41 t160.length co41 x6_1 oa q64 hroom64
           have hr64 := Kd.F_take (m := (x6_1 : Int).toNat) hC64 (by omega)
           have hy64 : y183.length = (x6_1 : Int).toNat := (by rw [Ny183.out, List.length_take]; omega)
           rw [← Ny183.out] at hr64
           rw [← hy64] at hcut64
           have HO187 := Aside0.mk (show Kd.V k40 40 _ w.heap.size _ (.slice Ao41 y183.length co41) y183 from Kd.V_mk (by omega) hr64)
           have HC187 := Aside0.mk (show y183.length ≤ co41 from by omega)
           clear hr64 hC64 hroom64 hi064 hsz64
           have KY64 := Aside0.mk hy64
           clear hy64
           replace q64 := eq_true q64
           refine start_ (n := 11) (S := fun w' => w'.cell? ⟨gb164, 0, none⟩ = some (.slice Ao41 t160.length co41) ∧ w'.cell? ⟨gb164, 1, none⟩ = some (.int .i64 t163) ∧ w'.cell? ⟨gb158, 0, none⟩ = some (.int .i64 a1_0) ∧ w'.cell? ⟨gb158, 1, none⟩ = some (.int .i64 a1_1) ∧ w'.cell? ⟨gb158, 2, none⟩ = some (.int .i64 a1_2) ∧ w'.cell? ⟨gb158, 3, none⟩ = some (.slice A1_3 l1_3.length c1_3) ∧ w'.cell? ⟨gb158, 4, none⟩ = some (.slice A1_4 l1_4.length c1_4) ∧ w'.cell? ⟨gb158, 5, none⟩ = some (.slice A1_5 l1_5.length c1_5)) (ds := []) #[false, false, false, false, false, false, false, false, false, false, false] (by kernel_rfl) rfl rfl oH (fun hHeld => ?_); refine with_tabW spec_SetInode.tab9 spec_SetInode.bits9 (fun HT_ HW_ => ?_)
           generalize w62.drew = w63 at HO_165000 BK157 BK158 BK159 BK164 HB HO187 hHeld ⊢
           refine pure_ (i := 1) (N := some 42) (v := ?_) (a' := ?_) #[false, true, false, false, false, false, false, false, false, false, false] rfl rfl (any_of HT_.out (by kernel_rfl)) (fun _ _ _ h => h) (Or.inl ⟨by rfl, ?_⟩) ?_ ?_
           rotate_left
           ·intro w'
            go_simp
            with_reducible rfl
           rotate_left
           ·simp only [Act.put, List.setIfInBounds_toArray, List.set_cons_zero, List.set_cons_succ, i64_w, i32_w]
            rfl
           refine pure_ (i := 3) (N := some 44) (v := ?_) (a' := ?_) #[false, true, false, true, false, false, false, false, false, false, false] rfl rfl (any_of HT_.out (by kernel_rfl)) (fun _ _ _ h => h) (Or.inl ⟨by rfl, ?_⟩) ?_ ?_
           rotate_left
           ·intro w'
            go_simp
            with_reducible rfl
           rotate_left
           ·simp only [Act.put, List.setIfInBounds_toArray, List.set_cons_zero, List.set_cons_succ, i64_w, i32_w]
            rfl
           refine take_ (i := 2) (N := some 43) (v := ?_) (a' := ?_) #[false, true, true, true, false, false, false, false, false, false, false] rfl rfl (take_ofW HT_.out HW_.out (by kernel_rfl)) (fun _ _ _ h => h) (Or.inl ⟨by rfl, ?_⟩) hHeld ?_ ?_
           rotate_left
           ·rintro w' ⟨s0, s1, s2, s3, s4, s5, s6, s7⟩
            go_simp
            with_reducible rfl
           rotate_left
           ·simp only [Act.put, List.setIfInBounds_toArray, List.set_cons_zero, List.set_cons_succ, i64_w, i32_w]
            rfl
           refine pure_ (i := 4) (N := some 45) (v := ?_) (a' := ?_) #[false, true, true, true, true, false, false, false, false, false, false] rfl rfl (any_of HT_.out (by kernel_rfl)) (fun _ _ _ h => h) (Or.inl ⟨by rfl, ?_⟩) ?_ ?_
           rotate_left
           ·intro w'
            go_simp
            with_reducible rfl
           rotate_left
           ·simp only [Act.put, List.setIfInBounds_toArray, List.set_cons_zero, List.set_cons_succ, i64_w, i32_w]
            rfl
           refine take_ (i := 6) (N := some 47) (v := ?_) (a' := ?_) #[false, true, true, true, true, false, true, false, false, false, false] rfl rfl (take_ofW HT_.out HW_.out (by kernel_rfl)) (fun _ _ _ h => h) (Or.inl ⟨by rfl, ?_⟩) hHeld ?_ ?_
           rotate_left
           ·rintro w' ⟨s0, s1, s2, s3, s4, s5, s6, s7⟩
            go_simp
            with_reducible rfl
           rotate_left
           ·simp only [Act.put, List.setIfInBounds_toArray, List.set_cons_zero, List.set_cons_succ, i64_w, i32_w]
            rfl
           refine one_ (i := 0) (N := some 41) #[true, true, true, true, true, false, true, false, false, false, false] rfl rfl (one_of HT_.out (by kernel_rfl)) (by decide) (fun K hK => ?_)
           refine Kd.N_lit_step k40 _ 40 ?hg (N' := 41) ?hd (xs := ([] : List (S40))) (inner := []) (ok := (fun k_ => (w.heap.size ≤ k_) ∧ some k_ ≠ (.slice Ao41 t160.length co41 : Value).ownBlock ∧ k_ ≠ gb157 ∧ k_ ≠ gb158 ∧ k_ ≠ gb159 ∧ k_ ≠ gb164)) (okp := (fun k_ => (w.heap.size ≤ k_) ∧ some k_ ≠ (.slice Ao41 t160.length co41 : Value).ownBlock ∧ k_ ≠ gb157 ∧ k_ ≠ gb158 ∧ k_ ≠ gb159 ∧ k_ ≠ gb164)) ?hr ?hp (fun _ hk => hk) ((show ∀ k_, w63.heap.size ≤ k_ → (fun k_ => (w.heap.size ≤ k_) ∧ some k_ ≠ (.slice Ao41 t160.length co41 : Value).ownBlock ∧ k_ ≠ gb157 ∧ k_ ≠ gb158 ∧ k_ ≠ gb159 ∧ k_ ≠ gb164) k_ from fun k_ hk => ⟨(Nat.le_trans (below_size oB) hk), Kd.fresh' (Kd.N_lt (by (with_reducible repeat (first | apply Kd.N_alloc | apply Kd.N_drewN | apply Kd.N_drew)); exact HO_165000.out)) k_ hk, Kd.freshB (g := gb157) (o := .cells #[.slice (some ad179) l0_0.length c0_0, .int .i64 a0_1] 34 (0, 0)) (oF BK157) k_ hk, Kd.freshB (g := gb158) (o := .cells #[.int .i64 a1_0, .int .i64 a1_1, .int .i64 a1_2, .slice A1_3 l1_3.length c1_3, .slice A1_4 l1_4.length c1_4, .slice A1_5 l1_5.length c1_5] 40 (0, 0)) (oF BK158) k_ hk, Kd.freshB (g := gb159) (o := .cells #[.slice none 0 0, .int .i64 0] 34 (0, 0)) (oF BK159) k_ hk, Kd.freshB (g := gb164) (o := .cells #[.slice Ao41 t160.length co41, .int .i64 t163] 34 (0, 0)) (oF BK164) k_ hk⟩) _ (Nat.le_refl _)) (Below.refl _ _) (Nat.le_refl _) (by simp) ?_; (case hd => rfl); (case hg => rfl); (case hr => first | (go_simp; done) | (go_simp; rfl)); (case hp => exact (Reps.none _ _))
           intro v181 w65 ho66 hb hg_ hnew_
           clear hg_ hnew_
           (first | rw [← Ny180.out] at ho66 | (simp only [Int.reduceToNat] at ho66; rw [← Ny180.out] at ho66))
           have HO182 := Aside0.mk (Kd.N_lower ho66 (below_size oB))
           replace HO_165000 := Aside0.mk (Kd.N_elder' (by (with_reducible repeat (first | apply Kd.N_alloc | apply Kd.N_drewN | apply Kd.N_drew)); exact HO_165000.out) (Kd.N_base ho66) hb)
           replace HO187 := Aside0.mk (Kd.V_elder' (by (with_reducible repeat (first | apply Kd.V_alloc | apply Kd.V_drewN | apply Kd.V_drew)); exact HO187.out) (Kd.N_base ho66) hb)
           replace BK157 := kb_ BK157 hb
           replace BK158 := kb_ BK158 hb
           replace BK159 := kb_ BK159 hb
           replace BK164 := kb_ BK164 hb
           replace HB := Aside0.mk (below_step oB hb)
           clear hb ho66
           refine hK.out _ _ oH (fun hHeld => ?_)
           clear hK K
           refine norm_ (a' := ?_) ?_ ?_
           rotate_left
           ·show Act.put _ (some 41) _ = _
            simp only [Act.put, List.setIfInBounds_toArray, List.set_cons_zero, List.set_cons_succ, i64_w, i32_w]
            rfl
           refine one_ (i := 5) (N := some 46) #[true, true, true, true, true, true, true, false, false, false, false] rfl rfl (one_of HT_.out (by kernel_rfl)) (by decide) (fun K hK => ?_)
           refine Kd.N_append_rows_step k40 (w0 := w) w.heap.size (by rfl) (.tmp 41) (.tmp 45) 32 40 (.agg #[(.int .i64 0), (.int .i64 0), (.int .i64 0), (.slice none 0 0), (.slice none 0 0), (.slice none 0 0)]) 96 rfl Try.underlying32 info40 rfl (by decide) (by omega) v181 y180 y183 _ _ _ (fun k_ => (w.heap.size ≤ k_) ∧ k_ ≠ gb157 ∧ k_ ≠ gb158 ∧ k_ ≠ gb159 ∧ k_ ≠ gb164) (fun k_ => ((fun k_ => (w.heap.size ≤ k_) ∧ k_ ≠ gb157 ∧ k_ ≠ gb158 ∧ k_ ≠ gb159 ∧ k_ ≠ gb164)) k_ ∧ some k_ ≠ (v181 : Value).ownBlock) rfl rfl ?aO ?aR (fun _ hk => hk) ?aF ?aB ?aS ?aL ?_
           (case aR => exact (by skip; exact Kd.V_F (Kd.V_mono (ok' := (fun k_ => ((fun k_ => (w.heap.size ≤ k_) ∧ k_ ≠ gb157 ∧ k_ ≠ gb158 ∧ k_ ≠ gb159 ∧ k_ ≠ gb164)) k_ ∧ some k_ ≠ (v181 : Value).ownBlock)) (HO187.out) (fun k_ hk => ⟨⟨hk.1.1, ⟨hk.1.2.1, ⟨hk.1.2.2.1, ⟨hk.1.2.2.2.1, hk.1.2.2.2.2⟩⟩⟩⟩, hk.2⟩))))
           (case aB => exact oB)
           (case aF => exact (fun k_ hk => ⟨(Nat.le_trans (below_size oB) hk), Kd.freshB (g := gb157) (o := .cells #[.slice (some ad179) l0_0.length c0_0, .int .i64 a0_1] 34 (0, 0)) (oF BK157) k_ hk, Kd.freshB (g := gb158) (o := .cells #[.int .i64 a1_0, .int .i64 a1_1, .int .i64 a1_2, .slice A1_3 l1_3.length c1_3, .slice A1_4 l1_4.length c1_4, .slice A1_5 l1_5.length c1_5] 40 (0, 0)) (oF BK158) k_ hk, Kd.freshB (g := gb159) (o := .cells #[.slice none 0 0, .int .i64 0] 34 (0, 0)) (oF BK159) k_ hk, Kd.freshB (g := gb164) (o := .cells #[.slice Ao41 t160.length co41, .int .i64 t163] 34 (0, 0)) (oF BK164) k_ hk⟩))
           (case aO => exact (by (with_reducible repeat (first | apply Kd.N_alloc | apply Kd.N_drewN | apply Kd.N_drew)); exact Kd.N_mono HO182.out (fun _ hk => ⟨hk.1, ⟨hk.2.2.1, ⟨hk.2.2.2.1, ⟨hk.2.2.2.2.1, hk.2.2.2.2.2⟩⟩⟩⟩)))
           (case aS => exact (below_size oB))
           (case aL => have := LMc56.out; omega)
           intro v189 w67 ho hb hg hat
           rw [← Ny188.out] at ho
           have HO190 := Aside0.mk (ho)
           replace HO_165000 := Aside0.mk (Kd.N_afterv (ok := (fun k_ => (w.heap.size ≤ k_) ∧ k_ ≠ gb157 ∧ k_ ≠ gb158 ∧ k_ ≠ gb159 ∧ k_ ≠ gb164)) (by (with_reducible repeat (first | apply Kd.N_alloc | apply Kd.N_drewN | apply Kd.N_drew)); exact HO_165000.out) hg hat)
           replace BK157 := Aside0.mk (blk_grown (g := gb157) (o := .cells #[.slice (some ad179) l0_0.length c0_0, .int .i64 a0_1] 34 (0, 0)) (oF BK157) hg (Kd.N_ne HO182.out BK157.out (by decide)))
           replace BK158 := Aside0.mk (blk_grown (g := gb158) (o := .cells #[.int .i64 a1_0, .int .i64 a1_1, .int .i64 a1_2, .slice A1_3 l1_3.length c1_3, .slice A1_4 l1_4.length c1_4, .slice A1_5 l1_5.length c1_5] 40 (0, 0)) (oF BK158) hg (Kd.N_away HO182.out (fun _ hk => hk.2.2.2.1)))
           replace BK159 := Aside0.mk (blk_grown (g := gb159) (o := .cells #[.slice none 0 0, .int .i64 0] 34 (0, 0)) (oF BK159) hg (Kd.N_ne HO182.out BK159.out (by decide)))
           replace BK164 := Aside0.mk (blk_grown (g := gb164) (o := .cells #[.slice Ao41 t160.length co41, .int .i64 t163] 34 (0, 0)) (oF BK164) hg (Kd.N_ne HO182.out BK164.out (by decide)))
           replace HO187 := Aside0.mk (Kd.V_afterv (ok := (fun k_ => (w.heap.size ≤ k_) ∧ k_ ≠ gb157 ∧ k_ ≠ gb158 ∧ k_ ≠ gb159 ∧ k_ ≠ gb164)) (by (with_reducible repeat (first | apply Kd.V_alloc | apply Kd.V_drewN | apply Kd.V_drew)); exact HO187.out) hg hat)
           replace HB := Aside0.mk (hb)
           clear HO182
           clear ho hb hg hat
           refine hK.out _ _ oH (fun hHeld => ?_)
           clear hK K
           refine norm_ (a' := ?_) ?_ ?_
           rotate_left
           ·show Act.put _ (some 46) _ = _
            simp only [Act.put, List.setIfInBounds_toArray, List.set_cons_zero, List.set_cons_succ, i64_w, i32_w]
            rfl
           refine one_ (i := 7) (N := some 48) #[true, true, true, true, true, true, true, true, false, false, false] rfl rfl (one_of HT_.out (by kernel_rfl)) (by decide) (fun K hK => ?_)
           refine gr_ 48 Try.func37 (spec_l3Copy.calls a1_0 a1_1 a1_2 _ _ l1_3 _ _ l1_4 _ _ l1_5 t191 t192 t193 t194 t197 t200 _ (kC HR1_3) HC1_3.out (kC HR1_4) HC1_4.out (kC HR1_5) HC1_5.out A57.out) ?_
           rintro e w68 ⟨v195, v198, v201, rfl, ho0, ho1, ho2, hb⟩
           refine ⟨_, rfl, ?_⟩
           have HO196 := Aside0.mk (Kd.R_lower (Kd.R_newM (M := fun k_ => (w.heap.size ≤ k_)) ho0 (below_size oB) (fun k_ h_ => h_)) (below_size oB))
           have HO199 := Aside0.mk (Kd.R_lower (Kd.R_newM (M := fun k_ => (w.heap.size ≤ k_)) ho1 (below_size oB) (fun k_ h_ => h_)) (below_size oB))
           have HO202 := Aside0.mk (Kd.R_lower (Kd.R_newM (M := fun k_ => (w.heap.size ≤ k_)) ho2 (below_size oB) (fun k_ h_ => h_)) (below_size oB))
           replace HO_165000 := Aside0.mk (Kd.N_mono (Kd.N_told (Kd.N_told (Kd.N_told (Kd.N_old (by (with_reducible repeat (first | apply Kd.N_alloc | apply Kd.N_drewN | apply Kd.N_drew)); exact HO_165000.out) hb) (Kd.R_base ho0)) (Kd.R_base ho1)) (Kd.R_base ho2)) (fun _ h_ => h_.1))
           replace HO187 := Aside0.mk (Kd.V_mono (Kd.V_told (Kd.V_told (Kd.V_told (Kd.V_old (by (with_reducible repeat (first | apply Kd.V_alloc | apply Kd.V_drewN | apply Kd.V_drew)); exact HO187.out) hb) (Kd.R_base ho0)) (Kd.R_base ho1)) (Kd.R_base ho2)) (fun _ h_ => h_.1))
           replace HO190 := Aside0.mk (Kd.N_mono (Kd.N_told (Kd.N_told (Kd.N_told (Kd.N_old (by (with_reducible repeat (first | apply Kd.N_alloc | apply Kd.N_drewN | apply Kd.N_drew)); exact HO190.out) hb) (Kd.R_base ho0)) (Kd.R_base ho1)) (Kd.R_base ho2)) (fun _ h_ => h_.1))
           replace BK157 := kb_ BK157 hb
           replace BK158 := kb_ BK158 hb
           replace BK159 := kb_ BK159 hb
           replace BK164 := kb_ BK164 hb
           replace HB := Aside0.mk (below_step oB hb)
           (try clear ho1)
           (try clear ho2)
           obtain ⟨Ao70, co70, eo70⟩ := Kd.R_slice HO196.out
           (first | subst eo70 | (injection eo70 with f1_ f2_ f3_; have f4_ := f1_.symm; have f5_ := f3_.symm; clear f1_ f2_ f3_; subst f4_; subst f5_))
           obtain ⟨Ao71, co71, eo71⟩ := Kd.R_slice HO199.out
           (first | subst eo71 | (injection eo71 with f1_ f2_ f3_; have f4_ := f1_.symm; have f5_ := f3_.symm; clear f1_ f2_ f3_; subst f4_; subst f5_))
           obtain ⟨Ao72, co72, eo72⟩ := Kd.R_slice HO202.out
           (first | subst eo72 | (injection eo72 with f1_ f2_ f3_; have f4_ := f1_.symm; have f5_ := f3_.symm; clear f1_ f2_ f3_; subst f4_; subst f5_))
           refine hK.out _ _ oH (fun hHeld => ?_)
           clear hK K
           refine norm_ (a' := ?_) ?_ ?_
           rotate_left
           ·show Act.put _ (some 48) _ = _
            simp only [Act.put, List.setIfInBounds_toArray, List.set_cons_zero, List.set_cons_succ, i64_w, i32_w]
            rfl
           refine one_ (i := 8) (N := some 49) #[true, true, true, true, true, true, true, true, true, false, false] rfl rfl (one_of HT_.out (by kernel_rfl)) (by decide) (fun K hK => ?_)
           refine value_ (w1 := ?_) (v := ?_) (by rfl) rfl ?_ ?_
           rotate_left 2
           ·go_simp
            constructor
            ·rfl
            ·rfl
           refine hK.out _ _ ⟨(blk_cell (blk_alloc BK164.out _) 0).trans rfl, (blk_cell (blk_alloc BK164.out _) 1).trans rfl, (blk_cell (blk_alloc BK158.out _) 0).trans rfl, (blk_cell (blk_alloc BK158.out _) 1).trans rfl, (blk_cell (blk_alloc BK158.out _) 2).trans rfl, (blk_cell (blk_alloc BK158.out _) 3).trans rfl, (blk_cell (blk_alloc BK158.out _) 4).trans rfl, (blk_cell (blk_alloc BK158.out _) 5).trans rfl⟩ (fun hHeld => ?_)
           clear hK K
           refine norm_ (a' := ?_) ?_ ?_
           rotate_left
           ·show Act.put _ (some 49) _ = _
            simp only [Act.put, List.setIfInBounds_toArray, List.set_cons_zero, List.set_cons_succ, i64_w, i32_w]
            rfl
           refine one_ (i := 9) (N := some 50) #[true, true, true, true, true, true, true, true, true, true, false] rfl rfl (one_of HT_.out (by kernel_rfl)) (by decide) (fun K hK => ?_)
           refine Kd.N_append_step k40 (w0 := w) w.heap.size (by rfl) (.tmp 46) (.tmp 49) 32 40 (.agg #[(.int .i64 0), (.int .i64 0), (.int .i64 0), (.slice none 0 0), (.slice none 0 0), (.slice none 0 0)]) 96 rfl Try.underlying32 info40 rfl (by decide) (by omega) v189 y188 (⟨t191, t192, t193, t194, t197, t200⟩ : S40) [.int .i64 t191, .int .i64 t192, .int .i64 t193, .slice Ao70 t194.length co70, .slice Ao71 t197.length co71, .slice Ao72 t200.length co72] (fun k_ => (w.heap.size ≤ k_) ∧ k_ ≠ gb157 ∧ k_ ≠ gb158 ∧ k_ ≠ gb159 ∧ k_ ≠ gb164) (fun k_ => ((fun k_ => (w.heap.size ≤ k_) ∧ k_ ≠ gb157 ∧ k_ ≠ gb158 ∧ k_ ≠ gb159 ∧ k_ ≠ gb164)) k_ ∧ some k_ ≠ (v189 : Value).ownBlock) rfl rfl ?aP (fun _ hk => hk) ?aF ?aO ?aB ?aS ?aL ?_
           (case aP => exact (k40_mkF _ _ (⟨t191, t192, t193, t194, t197, t200⟩ : S40) (Kd.R_reads' (Kd.R_mono (ok' := (fun k_ => ((fun k_ => (w.heap.size ≤ k_) ∧ k_ ≠ gb157 ∧ k_ ≠ gb158 ∧ k_ ≠ gb159 ∧ k_ ≠ gb164)) k_ ∧ some k_ ≠ (v189 : Value).ownBlock)) (Kd.R_types (Kd.R_types (Kd.R_types (Kd.R_types (Kd.R_apart' (HO196.out) (Kd.N_typed HO190.out) (by decide)) BK157.out (by decide)) BK158.out (by decide)) BK159.out (by decide)) BK164.out (by decide)) (fun k_ hk => ⟨⟨hk.1.1.1.1.1.1, ⟨hk.1.1.1.2, ⟨hk.1.1.2, ⟨hk.1.2, hk.2⟩⟩⟩⟩, hk.1.1.1.1.2⟩))).2.1 (Kd.R_F (Kd.R_mono (ok' := (fun k_ => ((fun k_ => (w.heap.size ≤ k_) ∧ k_ ≠ gb157 ∧ k_ ≠ gb158 ∧ k_ ≠ gb159 ∧ k_ ≠ gb164)) k_ ∧ some k_ ≠ (v189 : Value).ownBlock)) (Kd.R_types (Kd.R_types (Kd.R_types (Kd.R_types (Kd.R_apart' (HO196.out) (Kd.N_typed HO190.out) (by decide)) BK157.out (by decide)) BK158.out (by decide)) BK159.out (by decide)) BK164.out (by decide)) (fun k_ hk => ⟨⟨hk.1.1.1.1.1.1, ⟨hk.1.1.1.2, ⟨hk.1.1.2, ⟨hk.1.2, hk.2⟩⟩⟩⟩, hk.1.1.1.1.2⟩))) (Kd.R_reads' (Kd.R_mono (ok' := (fun k_ => ((fun k_ => (w.heap.size ≤ k_) ∧ k_ ≠ gb157 ∧ k_ ≠ gb158 ∧ k_ ≠ gb159 ∧ k_ ≠ gb164)) k_ ∧ some k_ ≠ (v189 : Value).ownBlock)) (Kd.R_types (Kd.R_types (Kd.R_types (Kd.R_types (Kd.R_apart' (HO199.out) (Kd.N_typed HO190.out) (by decide)) BK157.out (by decide)) BK158.out (by decide)) BK159.out (by decide)) BK164.out (by decide)) (fun k_ hk => ⟨⟨hk.1.1.1.1.1.1, ⟨hk.1.1.1.2, ⟨hk.1.1.2, ⟨hk.1.2, hk.2⟩⟩⟩⟩, hk.1.1.1.1.2⟩))).2.1 (Kd.R_F (Kd.R_mono (ok' := (fun k_ => ((fun k_ => (w.heap.size ≤ k_) ∧ k_ ≠ gb157 ∧ k_ ≠ gb158 ∧ k_ ≠ gb159 ∧ k_ ≠ gb164)) k_ ∧ some k_ ≠ (v189 : Value).ownBlock)) (Kd.R_types (Kd.R_types (Kd.R_types (Kd.R_types (Kd.R_apart' (HO199.out) (Kd.N_typed HO190.out) (by decide)) BK157.out (by decide)) BK158.out (by decide)) BK159.out (by decide)) BK164.out (by decide)) (fun k_ hk => ⟨⟨hk.1.1.1.1.1.1, ⟨hk.1.1.1.2, ⟨hk.1.1.2, ⟨hk.1.2, hk.2⟩⟩⟩⟩, hk.1.1.1.1.2⟩))) (Kd.R_reads' (Kd.R_mono (ok' := (fun k_ => ((fun k_ => (w.heap.size ≤ k_) ∧ k_ ≠ gb157 ∧ k_ ≠ gb158 ∧ k_ ≠ gb159 ∧ k_ ≠ gb164)) k_ ∧ some k_ ≠ (v189 : Value).ownBlock)) (Kd.R_types (Kd.R_types (Kd.R_types (Kd.R_types (Kd.R_apart' (HO202.out) (Kd.N_typed HO190.out) (by decide)) BK157.out (by decide)) BK158.out (by decide)) BK159.out (by decide)) BK164.out (by decide)) (fun k_ hk => ⟨⟨hk.1.1.1.1.1.1, ⟨hk.1.1.1.2, ⟨hk.1.1.2, ⟨hk.1.2, hk.2⟩⟩⟩⟩, hk.1.1.1.1.2⟩))).2.1 (Kd.R_F (Kd.R_mono (ok' := (fun k_ => ((fun k_ => (w.heap.size ≤ k_) ∧ k_ ≠ gb157 ∧ k_ ≠ gb158 ∧ k_ ≠ gb159 ∧ k_ ≠ gb164)) k_ ∧ some k_ ≠ (v189 : Value).ownBlock)) (Kd.R_types (Kd.R_types (Kd.R_types (Kd.R_types (Kd.R_apart' (HO202.out) (Kd.N_typed HO190.out) (by decide)) BK157.out (by decide)) BK158.out (by decide)) BK159.out (by decide)) BK164.out (by decide)) (fun k_ hk => ⟨⟨hk.1.1.1.1.1.1, ⟨hk.1.1.1.2, ⟨hk.1.1.2, ⟨hk.1.2, hk.2⟩⟩⟩⟩, hk.1.1.1.1.2⟩)))))
           (case aB => exact oB)
           (case aF => exact (fun k_ hk => ⟨(Nat.le_trans (below_size oB) hk), Kd.freshB (g := gb157) (o := .cells #[.slice (some ad179) l0_0.length c0_0, .int .i64 a0_1] 34 (0, 0)) (oF BK157) k_ hk, Kd.freshB (g := gb158) (o := .cells #[.int .i64 a1_0, .int .i64 a1_1, .int .i64 a1_2, .slice A1_3 l1_3.length c1_3, .slice A1_4 l1_4.length c1_4, .slice A1_5 l1_5.length c1_5] 40 (0, 0)) (oF BK158) k_ hk, Kd.freshB (g := gb159) (o := .cells #[.slice none 0 0, .int .i64 0] 34 (0, 0)) (oF BK159) k_ hk, Kd.freshB (g := gb164) (o := .cells #[.slice Ao41 t160.length co41, .int .i64 t163] 34 (0, 0)) (oF BK164) k_ hk⟩))
           (case aO => exact (by (with_reducible repeat (first | apply Kd.N_alloc | apply Kd.N_drewN | apply Kd.N_drew)); exact Kd.N_mono HO190.out (fun _ hk => ⟨hk.1.1.1.1, ⟨hk.1.1.1.2.1, ⟨hk.1.1.1.2.2.1, ⟨hk.1.1.1.2.2.2.1, hk.1.1.1.2.2.2.2⟩⟩⟩⟩)))
           (case aS => exact (below_size oB))
           (case aL => have := LMc58.out; omega)
           intro v204 w69 ho hb hg hat
           rw [← Ny203.out] at ho
           have HO205 := Aside0.mk (ho)
           replace HO_165000 := Aside0.mk (Kd.N_afterv (ok := (fun k_ => (w.heap.size ≤ k_) ∧ some k_ ≠ (.slice Ao70 t194.length co70 : Value).ownBlock ∧ some k_ ≠ (.slice Ao71 t197.length co71 : Value).ownBlock ∧ some k_ ≠ (.slice Ao72 t200.length co72 : Value).ownBlock ∧ k_ ≠ gb157 ∧ k_ ≠ gb158 ∧ k_ ≠ gb159 ∧ k_ ≠ gb164)) (by (with_reducible repeat (first | apply Kd.N_alloc | apply Kd.N_drewN | apply Kd.N_drew)); exact Kd.N_mono HO_165000.out (fun _ hk => ⟨⟨hk.1.1.1.1.1, ⟨hk.1.1.2, ⟨hk.1.2, ⟨hk.2, ⟨hk.1.1.1.1.2.1, ⟨hk.1.1.1.1.2.2.1, ⟨hk.1.1.1.1.2.2.2.1, hk.1.1.1.1.2.2.2.2⟩⟩⟩⟩⟩⟩⟩, hk.1.1.1.2⟩)) hg hat)
           replace BK157 := Aside0.mk (blk_grown (g := gb157) (o := .cells #[.slice (some ad179) l0_0.length c0_0, .int .i64 a0_1] 34 (0, 0)) (oF BK157) hg (Kd.N_ne HO190.out BK157.out (by decide)))
           replace BK158 := Aside0.mk (blk_grown (g := gb158) (o := .cells #[.int .i64 a1_0, .int .i64 a1_1, .int .i64 a1_2, .slice A1_3 l1_3.length c1_3, .slice A1_4 l1_4.length c1_4, .slice A1_5 l1_5.length c1_5] 40 (0, 0)) (oF BK158) hg (Kd.N_away HO190.out (fun _ hk => hk.1.1.1.2.2.1)))
           replace BK159 := Aside0.mk (blk_grown (g := gb159) (o := .cells #[.slice none 0 0, .int .i64 0] 34 (0, 0)) (oF BK159) hg (Kd.N_ne HO190.out BK159.out (by decide)))
           replace BK164 := Aside0.mk (blk_grown (g := gb164) (o := .cells #[.slice Ao41 t160.length co41, .int .i64 t163] 34 (0, 0)) (oF BK164) hg (Kd.N_ne HO190.out BK164.out (by decide)))
           replace HO187 := Aside0.mk (Kd.V_afterv (ok := (fun k_ => (w.heap.size ≤ k_) ∧ some k_ ≠ (.slice Ao70 t194.length co70 : Value).ownBlock ∧ some k_ ≠ (.slice Ao71 t197.length co71 : Value).ownBlock ∧ some k_ ≠ (.slice Ao72 t200.length co72 : Value).ownBlock ∧ k_ ≠ gb157 ∧ k_ ≠ gb158 ∧ k_ ≠ gb159 ∧ k_ ≠ gb164)) (by (with_reducible repeat (first | apply Kd.V_alloc | apply Kd.V_drewN | apply Kd.V_drew)); exact Kd.V_mono HO187.out (fun _ hk => ⟨⟨hk.1.1.1.1.1, ⟨hk.1.1.2, ⟨hk.1.2, ⟨hk.2, ⟨hk.1.1.1.1.2.1, ⟨hk.1.1.1.1.2.2.1, ⟨hk.1.1.1.1.2.2.2.1, hk.1.1.1.1.2.2.2.2⟩⟩⟩⟩⟩⟩⟩, hk.1.1.1.2⟩)) hg hat)
           replace HB := Aside0.mk (hb)
           clear HO190
           clear HO196
           clear HO199
           clear HO202
           clear ho hb hg hat
           refine hK.out _ _ oH (fun hHeld => ?_)
           clear hK K
           refine norm_ (a' := ?_) ?_ ?_
           rotate_left
           ·show Act.put _ (some 50) _ = _
            simp only [Act.put, List.setIfInBounds_toArray, List.set_cons_zero, List.set_cons_succ, i64_w, i32_w]
            rfl
           refine pure_ (i := 10) (N := some 7) (v := ?_) (a' := ?_) #[true, true, true, true, true, true, true, true, true, true, true] rfl rfl (any_of HT_.out (by kernel_rfl)) (fun _ _ _ h => h) (Or.inl ⟨by rfl, ?_⟩) ?_ ?_
           rotate_left
           ·intro w'
            go_simp
            with_reducible rfl
           rotate_left
           ·simp only [Act.put, List.setIfInBounds_toArray, List.set_cons_zero, List.set_cons_succ, i64_w, i32_w]
            rfl
           refine done_ (done_of HT_.out (by kernel_rfl)) ?_
           have hnb73 := NB164_157.out
           have hnc73 := NB157_164.out
           have hnb74 := NB164_158.out
           have hnc74 := NB158_164.out
           have hnb75 := NB164_159.out
           have hnc75 := NB159_164.out
           obtain ⟨⟨_, _⟩, _, _⟩ := z2 BK164
           have q77 : (x6_1 : Int) ≤ ((t160.length : Int) : Int) := oa
           obtain ⟨i077, hi077, _, hsz77, _⟩ := info_parts info40
           have hroom77 : t160.length ≤ co41 := (Kd.N_reads' HO_165000.out).2.1
           have hC77 : Kd.F k40 _ _ Ao41 t160.length t160 := (Kd.V_at (base := w.heap.size) (Kd.N_V HO_165000.out)).2.2
           have q077 : (0 : Int) ≤ (x6_1 : Int) := oa
           have hcut77 := cut_from (P := Try.prog) 32 40 .i64 Try.underlying32 hi077 6 hsz77 Ao41 t160.length co41 x6_1 q077 q77
           have hr77 := Kd.F_cut (m := (x6_1 : Int).toNat) (c := co41) hC77 (by omega) hroom77
           obtain ⟨A77, hA77⟩ : ∃ A1, A1 = (if co41 = (x6_1 : Int).toNat then Ao41 else (Ao41 : Option Addr).map (·.add ((x6_1 : Int).toNat * 6))) := ⟨_, rfl⟩
           obtain ⟨c77, hc77⟩ : ∃ c1, c1 = co41 - (x6_1 : Int).toNat := ⟨_, rfl⟩
           have hy77 : y206.length = t160.length - (x6_1 : Int).toNat := (by rw [Ny206.out, List.length_drop] <;> omega)
           rw [show (t160).drop (x6_1 : Int).toNat = y206 from Ny206.out.symm] at hr77
           replace hr77 : Kd.F k40 _ _ A77 y206.length y206 := (by rw [hA77]; exact hr77)
           rw [← hy77, ← hA77, ← hc77] at hcut77
           have HO210 := Aside0.mk (show Kd.V k40 40 _ w.heap.size _ (.slice A77 y206.length c77) y206 from Kd.V_mk (by rw [hy77, hc77]; exact Nat.sub_le_sub_right hroom77 _) hr77)
           have HC210 := Aside0.mk (show y206.length ≤ c77 from by rw [hy77, hc77]; exact Nat.sub_le_sub_right hroom77 _)
           clear hr77 hC77 hroom77 hi077 hsz77 hc77
           have KY77 := Aside0.mk hy77
           have KA77 := Aside0.mk hA77
           clear hy77 hA77
           replace q77 := eq_true q77
           try go_wp2_with (first | ((with_reducible refine gate_builtin (b := .append) (xs := #[.tmp 51, .tmp 55]) rfl ?_); at_builtin; refine Kd.N_append_rows k40 (w0 := w) w.heap.size rfl (.tmp 51) (.tmp 55) 32 40 (.agg #[(.int .i64 0), (.int .i64 0), (.int .i64 0), (.slice none 0 0), (.slice none 0 0), (.slice none 0 0)]) 96 rfl Try.underlying32 info40 rfl (by decide) (by omega) v204 y203 y206 _ _ _ (fun k_ => (w.heap.size ≤ k_) ∧ k_ ≠ gb157 ∧ k_ ≠ gb158 ∧ k_ ≠ gb159 ∧ k_ ≠ gb164) (fun k_ => ((fun k_ => (w.heap.size ≤ k_) ∧ k_ ≠ gb157 ∧ k_ ≠ gb158 ∧ k_ ≠ gb159 ∧ k_ ≠ gb164)) k_ ∧ some k_ ≠ (v204 : Value).ownBlock) rfl rfl ?aO ?aR (fun _ hk => hk) ?aF ?aB ?aS ?aL ?_; (case aR => exact (by skip; exact Kd.V_F (Kd.V_mono (ok' := (fun k_ => ((fun k_ => (w.heap.size ≤ k_) ∧ k_ ≠ gb157 ∧ k_ ≠ gb158 ∧ k_ ≠ gb159 ∧ k_ ≠ gb164)) k_ ∧ some k_ ≠ (v204 : Value).ownBlock)) (HO210.out) (fun k_ hk => ⟨⟨hk.1.1, ⟨hk.1.2.2.2.2.1, ⟨hk.1.2.2.2.2.2.1, ⟨hk.1.2.2.2.2.2.2.1, hk.1.2.2.2.2.2.2.2⟩⟩⟩⟩, hk.2⟩)))); (case aB => exact oB); (case aF => exact (fun k_ hk => ⟨(Nat.le_trans (below_size oB) hk), Kd.freshB (g := gb157) (o := .cells #[.slice (some ad179) l0_0.length c0_0, .int .i64 a0_1] 34 (0, 0)) (oF BK157) k_ hk, Kd.freshB (g := gb158) (o := .cells #[.int .i64 a1_0, .int .i64 a1_1, .int .i64 a1_2, .slice A1_3 l1_3.length c1_3, .slice A1_4 l1_4.length c1_4, .slice A1_5 l1_5.length c1_5] 40 (0, 0)) (oF BK158) k_ hk, Kd.freshB (g := gb159) (o := .cells #[.slice none 0 0, .int .i64 0] 34 (0, 0)) (oF BK159) k_ hk, Kd.freshB (g := gb164) (o := .cells #[.slice Ao41 t160.length co41, .int .i64 t163] 34 (0, 0)) (oF BK164) k_ hk⟩)); (case aO => exact (by (with_reducible repeat (first | apply Kd.N_alloc | apply Kd.N_drewN | apply Kd.N_drew)); exact HO205.out)); (case aS => exact (below_size oB)); (case aL => have := LMc61.out; omega); intro v212 w78 ho hb hg hat; rw [← Ny211.out] at ho; have HO213 := Aside0.mk (ho); replace HO_165000 := Aside0.mk (Kd.N_afterv (ok := (fun k_ => (w.heap.size ≤ k_) ∧ k_ ≠ gb157 ∧ k_ ≠ gb158 ∧ k_ ≠ gb159 ∧ k_ ≠ gb164)) (by (with_reducible repeat (first | apply Kd.N_alloc | apply Kd.N_drewN | apply Kd.N_drew)); exact Kd.N_mono HO_165000.out (fun _ hk => ⟨⟨hk.1.1, ⟨hk.1.2.2.2.2.1, ⟨hk.1.2.2.2.2.2.1, ⟨hk.1.2.2.2.2.2.2.1, hk.1.2.2.2.2.2.2.2⟩⟩⟩⟩, hk.2⟩)) hg hat); replace BK157 := Aside0.mk (blk_grown (g := gb157) (o := .cells #[.slice (some ad179) l0_0.length c0_0, .int .i64 a0_1] 34 (0, 0)) (oF BK157) hg (Kd.N_ne HO205.out BK157.out (by decide))); replace BK158 := Aside0.mk (blk_grown (g := gb158) (o := .cells #[.int .i64 a1_0, .int .i64 a1_1, .int .i64 a1_2, .slice A1_3 l1_3.length c1_3, .slice A1_4 l1_4.length c1_4, .slice A1_5 l1_5.length c1_5] 40 (0, 0)) (oF BK158) hg (Kd.N_away HO205.out (fun _ hk => hk.2.2.1))); replace BK159 := Aside0.mk (blk_grown (g := gb159) (o := .cells #[.slice none 0 0, .int .i64 0] 34 (0, 0)) (oF BK159) hg (Kd.N_ne HO205.out BK159.out (by decide))); replace BK164 := Aside0.mk (blk_grown (g := gb164) (o := .cells #[.slice Ao41 t160.length co41, .int .i64 t163] 34 (0, 0)) (oF BK164) hg (Kd.N_ne HO205.out BK164.out (by decide))); replace HO187 := Aside0.mk (Kd.V_afterv (ok := (fun k_ => (w.heap.size ≤ k_) ∧ k_ ≠ gb157 ∧ k_ ≠ gb158 ∧ k_ ≠ gb159 ∧ k_ ≠ gb164)) (by (with_reducible repeat (first | apply Kd.V_alloc | apply Kd.V_drewN | apply Kd.V_drew)); exact Kd.V_mono HO187.out (fun _ hk => ⟨⟨hk.1.1, ⟨hk.1.2.2.2.2.1, ⟨hk.1.2.2.2.2.2.1, ⟨hk.1.2.2.2.2.2.2.1, hk.1.2.2.2.2.2.2.2⟩⟩⟩⟩, hk.2⟩)) hg hat); replace HO210 := Aside0.mk (Kd.V_afterv (ok := (fun k_ => (w.heap.size ≤ k_) ∧ k_ ≠ gb157 ∧ k_ ≠ gb158 ∧ k_ ≠ gb159 ∧ k_ ≠ gb164)) (by (with_reducible repeat (first | apply Kd.V_alloc | apply Kd.V_drewN | apply Kd.V_drew)); exact Kd.V_mono HO210.out (fun _ hk => ⟨⟨hk.1.1, ⟨hk.1.2.2.2.2.1, ⟨hk.1.2.2.2.2.2.1, ⟨hk.1.2.2.2.2.2.2.1, hk.1.2.2.2.2.2.2.2⟩⟩⟩⟩, hk.2⟩)) hg hat); replace HB := Aside0.mk (hb); clear HO205; clear ho hb hg hat; obtain ⟨Ao79, co79, eo79⟩ := Kd.N_slice HO213.out; subst eo79; obtain ⟨⟨_, _⟩, _, _⟩ := z2 BK164; have hnb81 := NB159_157.out; have hnc81 := NB157_159.out; have hnb82 := NB159_158.out; have hnc82 := NB158_159.out; obtain ⟨⟨_, _⟩, _, _⟩ := z2 BK159))
           refine bodyPost_ret (results_cell_row rfl _ _ gb159 34 #[.slice Ao79 y211.length co79, .int .i64 t163] (0, 0) _ rfl (by (with_reducible repeat (first | refine blk_drewN ?_ _ | refine blk_drew ?_ | refine blk_alloc ?_ _)); refine blk_put (cs := #[.slice Ao79 y211.length co79, .int .i64 0]) ?_ 1 _ rfl; (with_reducible repeat (first | refine blk_drewN ?_ _ | refine blk_drew ?_ | refine blk_alloc ?_ _)); refine blk_put (cs := #[.slice none 0 0, .int .i64 0]) ?_ 0 _ rfl; (with_reducible repeat (first | refine blk_drewN ?_ _ | refine blk_drew ?_ | refine blk_alloc ?_ _)); refine blk_far ?_ NB159_164.out _; (with_reducible repeat (first | refine blk_drewN ?_ _ | refine blk_drew ?_ | refine blk_alloc ?_ _)); exact BK159.out) Try.underlying34 rfl (by kernel_rfl)) rfl ?_
           exact ⟨_, oE, by (with_reducible repeat (first | apply Kd.N_alloc | apply Kd.N_drewN | apply Kd.N_drew)); exact Kd.N_mono (Kd.N_far (p := ⟨gb159, 1, none⟩) (Kd.N_far (p := ⟨gb159, 0, none⟩) (Kd.N_far (p := ⟨gb164, 0, none⟩) (Kd.N_mono (Kd.N_mono HO213.out (fun k_ hk => (⟨hk, hk.2.2.2.2⟩ : _ ∧ k_ ≠ gb164))) (fun k_ hk => (⟨hk, hk.1.2.2.2.1⟩ : _ ∧ k_ ≠ gb159))) (fun _ hk => hk.1.2) (.slice Ao79 y211.length co79)) (fun _ hk => hk.2) (.slice Ao79 y211.length co79)) (fun _ hk => hk.2) (.int .i64 t163)) (fun _ hk => hk.1.1.1), oB⟩
          ·rw [if_neg c61] at H
           exact absurd H (by simp)
         ·rw [if_neg c58] at H
          exact absurd H (by simp)
        ·rw [if_neg c56] at H
         exact absurd H (by simp)
       ·rw [if_neg c55] at H
        exact absurd H (by simp)
     ·cases H
    ·obtain ⟨y214, hy214⟩ : ∃ y_ : List (S40), y_ = (([] : List (S40))) := ⟨_, rfl⟩
     replace H : (if 0 ≤ x6_1 then (if x6_1 ≤ (t160.length : Int) then ((some (t160.take (x6_1 : Int).toNat : List (S40))).bind fun y217 => (if y214.length + y217.length < 1466015503701 then ((some (y214 ++ y217 : List (S40))).bind fun y222 => ((spec_l3Copy.f a1_0 a1_1 a1_2 l1_3 l1_4 l1_5).bind fun bt225 => (if y222.length < 1466015503701 then ((some (y222 ++ [(⟨bt225.1, bt225.2.1, bt225.2.2.1, bt225.2.2.2.1, bt225.2.2.2.2.1, bt225.2.2.2.2.2⟩ : S40)] : List (S40))).bind fun y237 => ((some (t160.drop (x6_1 : Int).toNat : List (S40))).bind fun y240 => (if y237.length + y240.length < 1466015503701 then (some ((y237 ++ y240), t163)) else (none)))) else (none)))) else (none))) else (none)) else (none)) = some (r1, r2) := by first | (rw [hy214]; with_reducible exact H) | (have H2_ := (Option.bind_some _ _).symm.trans H; rw [hy214]; with_reducible exact H2_) | (have H2_ := (Option.bind_some _ _).symm.trans H; with_reducible exact H2_) | with_reducible exact H | (rw [hy214]; exact H) | exact H
     have Ny214 := Aside0.mk hy214
     clear hy214
     by_cases c84 : 0 ≤ x6_1
     ·rw [if_pos c84] at H
      have c84b0 := eq_true c84
      have c84b1 : decide (0 ≤ x6_1) = true := decide_eq_true c84
      clear c84
      by_cases c85 : x6_1 ≤ (t160.length : Int)
      ·rw [if_pos c85] at H
       have c85b0 := eq_true c85
       have c85b1 : decide (x6_1 ≤ (t160.length : Int)) = true := decide_eq_true c85
       clear c85
       obtain ⟨y217, hy217⟩ : ∃ y_ : List (S40), y_ = (t160.take (x6_1 : Int).toNat) := ⟨_, rfl⟩
       replace H : (if y214.length + y217.length < 1466015503701 then ((some (y214 ++ y217 : List (S40))).bind fun y222 => ((spec_l3Copy.f a1_0 a1_1 a1_2 l1_3 l1_4 l1_5).bind fun bt225 => (if y222.length < 1466015503701 then ((some (y222 ++ [(⟨bt225.1, bt225.2.1, bt225.2.2.1, bt225.2.2.2.1, bt225.2.2.2.2.1, bt225.2.2.2.2.2⟩ : S40)] : List (S40))).bind fun y237 => ((some (t160.drop (x6_1 : Int).toNat : List (S40))).bind fun y240 => (if y237.length + y240.length < 1466015503701 then (some ((y237 ++ y240), t163)) else (none)))) else (none)))) else (none)) = some (r1, r2) := by first | (rw [hy217]; with_reducible exact H) | (have H2_ := (Option.bind_some _ _).symm.trans H; rw [hy217]; with_reducible exact H2_) | (have H2_ := (Option.bind_some _ _).symm.trans H; with_reducible exact H2_) | with_reducible exact H | (rw [hy217]; exact H) | exact H
       have Ny217 := Aside0.mk hy217
       clear hy217
       by_cases c86 : y214.length + y217.length < 1466015503701
       ·rw [if_pos c86] at H
        have LMc86 := Aside0.mk c86
        clear c86
        obtain ⟨y222, hy222⟩ : ∃ y_ : List (S40), y_ = (y214 ++ y217) := ⟨_, rfl⟩
        replace H : ((spec_l3Copy.f a1_0 a1_1 a1_2 l1_3 l1_4 l1_5).bind fun bt225 => (if y222.length < 1466015503701 then ((some (y222 ++ [(⟨bt225.1, bt225.2.1, bt225.2.2.1, bt225.2.2.2.1, bt225.2.2.2.2.1, bt225.2.2.2.2.2⟩ : S40)] : List (S40))).bind fun y237 => ((some (t160.drop (x6_1 : Int).toNat : List (S40))).bind fun y240 => (if y237.length + y240.length < 1466015503701 then (some ((y237 ++ y240), t163)) else (none)))) else (none))) = some (r1, r2) := by first | (rw [hy222]; with_reducible exact H) | (have H2_ := (Option.bind_some _ _).symm.trans H; rw [hy222]; with_reducible exact H2_) | (have H2_ := (Option.bind_some _ _).symm.trans H; with_reducible exact H2_) | with_reducible exact H | (rw [hy222]; exact H) | exact H
        have Ny222 := Aside0.mk hy222
        clear hy222
        replace H := bA H
        obtain ⟨⟨t225, t226, t227, t228, t231, t234⟩, A87, H⟩ := H
        try dsimp only at H
        by_cases c88 : y222.length < 1466015503701
        ·rw [if_pos c88] at H
         have LMc88 := Aside0.mk c88
         clear c88
         obtain ⟨y237, hy237⟩ : ∃ y_ : List (S40), y_ = (y222 ++ [(⟨t225, t226, t227, t228, t231, t234⟩ : S40)]) := ⟨_, rfl⟩
         replace H : ((some (t160.drop (x6_1 : Int).toNat : List (S40))).bind fun y240 => (if y237.length + y240.length < 1466015503701 then (some ((y237 ++ y240), t163)) else (none))) = some (r1, r2) := by first | (rw [hy237]; with_reducible exact H) | (have H2_ := (Option.bind_some _ _).symm.trans H; rw [hy237]; with_reducible exact H2_) | (have H2_ := (Option.bind_some _ _).symm.trans H; with_reducible exact H2_) | with_reducible exact H | (rw [hy237]; exact H) | exact H
         have Ny237 := Aside0.mk hy237
         clear hy237
         have c89b0 := eq_true (oa : 0 ≤ x6_1)
         have c90b0 := eq_true (oa : x6_1 ≤ (t160.length : Int))
         obtain ⟨y240, hy240⟩ : ∃ y_ : List (S40), y_ = (t160.drop (x6_1 : Int).toNat) := ⟨_, rfl⟩
         replace H : (if y237.length + y240.length < 1466015503701 then (some ((y237 ++ y240), t163)) else (none)) = some (r1, r2) := by first | (rw [hy240]; with_reducible exact H) | (have H2_ := (Option.bind_some _ _).symm.trans H; rw [hy240]; with_reducible exact H2_) | (have H2_ := (Option.bind_some _ _).symm.trans H; with_reducible exact H2_) | with_reducible exact H | (rw [hy240]; exact H) | exact H
         have Ny240 := Aside0.mk hy240
         clear hy240
         by_cases c91 : y237.length + y240.length < 1466015503701
         ·rw [if_pos c91] at H
          have LMc91 := Aside0.mk c91
          clear c91
          obtain ⟨y245, hy245⟩ : ∃ y_ : List (S40), y_ = (y237 ++ y240) := ⟨_, rfl⟩
          replace H : (some (y245, t163)) = some (r1, r2) := by first | (rw [hy245]; with_reducible exact H) | (have H2_ := (Option.bind_some _ _).symm.trans H; rw [hy245]; with_reducible exact H2_) | (have H2_ := (Option.bind_some _ _).symm.trans H; with_reducible exact H2_) | with_reducible exact H | (rw [hy245]; exact H) | exact H
          have Ny245 := Aside0.mk hy245
          clear hy245
          simp only [Option.some.injEq, Prod.mk.injEq] at H
          obtain ⟨rfl, rfl⟩ := H
          try go_wp2
          replace HO_165000 := Aside0.mk (Kd.N_drew HO_165000.out)
          replace BK157 := Aside0.mk (blk_drew BK157.out)
          replace BK158 := Aside0.mk (blk_drew BK158.out)
          replace BK159 := Aside0.mk (blk_drew BK159.out)
          replace BK164 := Aside0.mk (blk_drew BK164.out)
          replace HB := Aside0.mk (below_drew1 HB.out)
          refine start_ (n := 16) (S := fun w' => w'.cell? ⟨gb157, 0, none⟩ = some (.slice A0_0 l0_0.length c0_0) ∧ w'.cell? ⟨gb157, 1, none⟩ = some (.int .i64 a0_1)) (ds := []) #[false, false, false, false, false, false, false, false, false, false, false, false, false, false, false, false] (by kernel_rfl) rfl rfl oH (fun hHeld => ?_); refine with_tabW spec_SetInode.tab7 spec_SetInode.bits7 (fun HT_ HW_ => ?_)
          generalize wr.drew = w92 at HO_165000 BK157 BK158 BK159 BK164 HB hHeld ⊢
          refine pure_ (i := 0) (N := some 23) (v := ?_) (a' := ?_) #[true, false, false, false, false, false, false, false, false, false, false, false, false, false, false, false] rfl rfl (any_of HT_.out (by kernel_rfl)) (fun _ _ _ h => h) (Or.inl ⟨by rfl, ?_⟩) ?_ ?_
          rotate_left
          ·intro w'
           go_simp
           with_reducible rfl
          rotate_left
          ·simp only [Act.put, List.setIfInBounds_toArray, List.set_cons_zero, List.set_cons_succ, i64_w, i32_w]
           rfl
          refine pure_ (i := 1) (N := some 24) (v := ?_) (a' := ?_) #[true, true, false, false, false, false, false, false, false, false, false, false, false, false, false, false] rfl rfl (any_of HT_.out (by kernel_rfl)) (fun _ _ _ h => h) (Or.inl ⟨by rfl, ?_⟩) ?_ ?_
          rotate_left
          ·intro w'
           go_simp
           with_reducible rfl
          rotate_left
          ·simp only [Act.put, List.setIfInBounds_toArray, List.set_cons_zero, List.set_cons_succ, i64_w, i32_w]
           rfl
          refine take_ (i := 2) (N := some 25) (v := ?_) (a' := ?_) #[true, true, true, false, false, false, false, false, false, false, false, false, false, false, false, false] rfl rfl (take_ofW HT_.out HW_.out (by kernel_rfl)) (fun _ _ _ h => h) (Or.inl ⟨by rfl, ?_⟩) hHeld ?_ ?_
          rotate_left
          ·rintro w' ⟨s0, s1⟩
           go_simp
           with_reducible rfl
          rotate_left
          ·simp only [Act.put, List.setIfInBounds_toArray, List.set_cons_zero, List.set_cons_succ, i64_w, i32_w]
           rfl
          refine pure_ (i := 3) (N := some 26) (v := ?_) (a' := ?_) #[true, true, true, true, false, false, false, false, false, false, false, false, false, false, false, false] rfl rfl (any_of HT_.out (by kernel_rfl)) (fun _ _ _ h => h) (Or.inl ⟨by rfl, ?_⟩) ?_ ?_
          rotate_left
          ·intro w'
           go_simp
           with_reducible rfl
          rotate_left
          ·simp only [Act.put, List.setIfInBounds_toArray, List.set_cons_zero, List.set_cons_succ, i64_w, i32_w]
           rfl
          refine pure_ (i := 4) (N := some 27) (v := ?_) (a' := ?_) #[true, true, true, true, true, false, false, false, false, false, false, false, false, false, false, false] rfl rfl (any_of HT_.out (by kernel_rfl)) (fun _ _ _ h => h) (Or.inl ⟨by rfl, ?_⟩) ?_ ?_
          rotate_left
          ·intro w'
           go_simp
           with_reducible rfl
          rotate_left
          ·simp only [Act.put, List.setIfInBounds_toArray, List.set_cons_zero, List.set_cons_succ, i64_w, i32_w]
           rfl
          refine pure_ (i := 5) (N := some 28) (v := ?_) (a' := ?_) #[true, true, true, true, true, true, false, false, false, false, false, false, false, false, false, false] rfl rfl (any_of HT_.out (by kernel_rfl)) (fun _ _ _ h => h) (Or.inl ⟨by rfl, ?_⟩) ?_ ?_
          rotate_left
          ·intro w'
           go_simp
           with_reducible rfl
          rotate_left
          ·simp only [Act.put, List.setIfInBounds_toArray, List.set_cons_zero, List.set_cons_succ, i64_w, i32_w]
           rfl
          refine pure_ (i := 6) (N := some 29) (v := undef) (a' := ?_) #[true, true, true, true, true, true, true, false, false, false, false, false, false, false, false, false] rfl rfl (any_of HT_.out (by kernel_rfl)) (fun _ _ _ h => h) (Or.inr ⟨by rfl, rfl⟩) ?_ ?_
          rotate_left
          ·simp only [Act.put, List.setIfInBounds_toArray, List.set_cons_zero, List.set_cons_succ, i64_w, i32_w]
           rfl
          refine pure_ (i := 7) (N := some 30) (v := undef) (a' := ?_) #[true, true, true, true, true, true, true, true, false, false, false, false, false, false, false, false] rfl rfl (any_of HT_.out (by kernel_rfl)) (fun _ _ _ h => h) (Or.inr ⟨by rfl, rfl⟩) ?_ ?_
          rotate_left
          ·simp only [Act.put, List.setIfInBounds_toArray, List.set_cons_zero, List.set_cons_succ, i64_w, i32_w]
           rfl
          refine pure_ (i := 8) (N := some 31) (v := undef) (a' := ?_) #[true, true, true, true, true, true, true, true, true, false, false, false, false, false, false, false] rfl rfl (any_of HT_.out (by kernel_rfl)) (fun _ _ _ h => h) (Or.inr ⟨by rfl, rfl⟩) ?_ ?_
          rotate_left
          ·simp only [Act.put, List.setIfInBounds_toArray, List.set_cons_zero, List.set_cons_succ, i64_w, i32_w]
           rfl
          refine pure_ (i := 9) (N := some 32) (v := undef) (a' := ?_) #[true, true, true, true, true, true, true, true, true, true, false, false, false, false, false, false] rfl rfl (any_of HT_.out (by kernel_rfl)) (fun _ _ _ h => h) (Or.inr ⟨by rfl, rfl⟩) ?_ ?_
          rotate_left
          ·simp only [Act.put, List.setIfInBounds_toArray, List.set_cons_zero, List.set_cons_succ, i64_w, i32_w]
           rfl
          refine pure_ (i := 10) (N := some 33) (v := undef) (a' := ?_) #[true, true, true, true, true, true, true, true, true, true, true, false, false, false, false, false] rfl rfl (any_of HT_.out (by kernel_rfl)) (fun _ _ _ h => h) (Or.inr ⟨by rfl, rfl⟩) ?_ ?_
          rotate_left
          ·simp only [Act.put, List.setIfInBounds_toArray, List.set_cons_zero, List.set_cons_succ, i64_w, i32_w]
           rfl
          refine pure_ (i := 11) (N := some 34) (v := undef) (a' := ?_) #[true, true, true, true, true, true, true, true, true, true, true, true, false, false, false, false] rfl rfl (any_of HT_.out (by kernel_rfl)) (fun _ _ _ h => h) (Or.inr ⟨by rfl, rfl⟩) ?_ ?_
          rotate_left
          ·simp only [Act.put, List.setIfInBounds_toArray, List.set_cons_zero, List.set_cons_succ, i64_w, i32_w]
           rfl
          refine pure_ (i := 12) (N := some 35) (v := undef) (a' := ?_) #[true, true, true, true, true, true, true, true, true, true, true, true, true, false, false, false] rfl rfl (any_of HT_.out (by kernel_rfl)) (fun _ _ _ h => h) (Or.inr ⟨by rfl, rfl⟩) ?_ ?_
          rotate_left
          ·simp only [Act.put, List.setIfInBounds_toArray, List.set_cons_zero, List.set_cons_succ, i64_w, i32_w]
           rfl
          refine pure_ (i := 13) (N := some 36) (v := undef) (a' := ?_) #[true, true, true, true, true, true, true, true, true, true, true, true, true, true, false, false] rfl rfl (any_of HT_.out (by kernel_rfl)) (fun _ _ _ h => h) (Or.inr ⟨by rfl, rfl⟩) ?_ ?_
          rotate_left
          ·simp only [Act.put, List.setIfInBounds_toArray, List.set_cons_zero, List.set_cons_succ, i64_w, i32_w]
           rfl
          refine pure_ (i := 14) (N := some 37) (v := undef) (a' := ?_) #[true, true, true, true, true, true, true, true, true, true, true, true, true, true, true, false] rfl rfl (any_of HT_.out (by kernel_rfl)) (fun _ _ _ h => h) (Or.inr ⟨by rfl, rfl⟩) ?_ ?_
          rotate_left
          ·simp only [Act.put, List.setIfInBounds_toArray, List.set_cons_zero, List.set_cons_succ, i64_w, i32_w]
           rfl
          refine pure_ (i := 15) (N := some 38) (v := ?_) (a' := ?_) #[true, true, true, true, true, true, true, true, true, true, true, true, true, true, true, true] rfl rfl (any_of HT_.out (by kernel_rfl)) (fun _ _ _ h => h) (Or.inl ⟨by rfl, ?_⟩) ?_ ?_
          rotate_left
          ·intro w'
           go_simp
           with_reducible rfl
          rotate_left
          ·simp only [Act.put, List.setIfInBounds_toArray, List.set_cons_zero, List.set_cons_succ, i64_w, i32_w]
           rfl
          refine done_ (done_of HT_.out (by kernel_rfl)) ?_
          try go_wp2
          replace HO_165000 := Aside0.mk (Kd.N_drew HO_165000.out)
          replace BK157 := Aside0.mk (blk_drew BK157.out)
          replace BK158 := Aside0.mk (blk_drew BK158.out)
          replace BK159 := Aside0.mk (blk_drew BK159.out)
          replace BK164 := Aside0.mk (blk_drew BK164.out)
          replace HB := Aside0.mk (below_drew1 HB.out)
          have q94 : (x6_1 : Int) ≤ ((t160.length : Int) : Int) := oa
          obtain ⟨i094, hi094, _, hsz94, _⟩ := info_parts info40
          have hroom94 : t160.length ≤ co41 := (Kd.N_reads' HO_165000.out).2.1
          have hC94 : Kd.F k40 _ _ Ao41 t160.length t160 := (Kd.V_at (base := w.heap.size) (Kd.N_V HO_165000.out)).2.2
          have hcut94 := cut_to (P := Try.prog) 32 40 .i64 Try.underlying32 hi094 Ao41 t160.length co41 x6_1 oa q94 hroom94
          have hr94 := Kd.F_take (m := (x6_1 : Int).toNat) hC94 (by omega)
          have hy94 : y217.length = (x6_1 : Int).toNat := (by rw [Ny217.out, List.length_take]; omega)
          rw [← Ny217.out] at hr94
          rw [← hy94] at hcut94
          have HO221 := Aside0.mk (show Kd.V k40 40 _ w.heap.size _ (.slice Ao41 y217.length co41) y217 from Kd.V_mk (by omega) hr94)
          have HC221 := Aside0.mk (show y217.length ≤ co41 from by omega)
          clear hr94 hC94 hroom94 hi094 hsz94
          have KY94 := Aside0.mk hy94
          clear hy94
          replace q94 := eq_true q94
          refine start_ (n := 11) (S := fun w' => w'.cell? ⟨gb164, 0, none⟩ = some (.slice Ao41 t160.length co41) ∧ w'.cell? ⟨gb164, 1, none⟩ = some (.int .i64 t163) ∧ w'.cell? ⟨gb158, 0, none⟩ = some (.int .i64 a1_0) ∧ w'.cell? ⟨gb158, 1, none⟩ = some (.int .i64 a1_1) ∧ w'.cell? ⟨gb158, 2, none⟩ = some (.int .i64 a1_2) ∧ w'.cell? ⟨gb158, 3, none⟩ = some (.slice A1_3 l1_3.length c1_3) ∧ w'.cell? ⟨gb158, 4, none⟩ = some (.slice A1_4 l1_4.length c1_4) ∧ w'.cell? ⟨gb158, 5, none⟩ = some (.slice A1_5 l1_5.length c1_5)) (ds := []) #[false, false, false, false, false, false, false, false, false, false, false] (by kernel_rfl) rfl rfl oH (fun hHeld => ?_); refine with_tabW spec_SetInode.tab9 spec_SetInode.bits9 (fun HT_ HW_ => ?_)
          generalize w92.drew = w93 at HO_165000 BK157 BK158 BK159 BK164 HB HO221 hHeld ⊢
          refine pure_ (i := 1) (N := some 42) (v := ?_) (a' := ?_) #[false, true, false, false, false, false, false, false, false, false, false] rfl rfl (any_of HT_.out (by kernel_rfl)) (fun _ _ _ h => h) (Or.inl ⟨by rfl, ?_⟩) ?_ ?_
          rotate_left
          ·intro w'
           go_simp
           with_reducible rfl
          rotate_left
          ·simp only [Act.put, List.setIfInBounds_toArray, List.set_cons_zero, List.set_cons_succ, i64_w, i32_w]
           rfl
          refine pure_ (i := 3) (N := some 44) (v := ?_) (a' := ?_) #[false, true, false, true, false, false, false, false, false, false, false] rfl rfl (any_of HT_.out (by kernel_rfl)) (fun _ _ _ h => h) (Or.inl ⟨by rfl, ?_⟩) ?_ ?_
          rotate_left
          ·intro w'
           go_simp
           with_reducible rfl
          rotate_left
          ·simp only [Act.put, List.setIfInBounds_toArray, List.set_cons_zero, List.set_cons_succ, i64_w, i32_w]
           rfl
          refine take_ (i := 2) (N := some 43) (v := ?_) (a' := ?_) #[false, true, true, true, false, false, false, false, false, false, false] rfl rfl (take_ofW HT_.out HW_.out (by kernel_rfl)) (fun _ _ _ h => h) (Or.inl ⟨by rfl, ?_⟩) hHeld ?_ ?_
          rotate_left
          ·rintro w' ⟨s0, s1, s2, s3, s4, s5, s6, s7⟩
           go_simp
           with_reducible rfl
          rotate_left
          ·simp only [Act.put, List.setIfInBounds_toArray, List.set_cons_zero, List.set_cons_succ, i64_w, i32_w]
           rfl
          refine pure_ (i := 4) (N := some 45) (v := ?_) (a' := ?_) #[false, true, true, true, true, false, false, false, false, false, false] rfl rfl (any_of HT_.out (by kernel_rfl)) (fun _ _ _ h => h) (Or.inl ⟨by rfl, ?_⟩) ?_ ?_
          rotate_left
          ·intro w'
           go_simp
           with_reducible rfl
          rotate_left
          ·simp only [Act.put, List.setIfInBounds_toArray, List.set_cons_zero, List.set_cons_succ, i64_w, i32_w]
           rfl
          refine take_ (i := 6) (N := some 47) (v := ?_) (a' := ?_) #[false, true, true, true, true, false, true, false, false, false, false] rfl rfl (take_ofW HT_.out HW_.out (by kernel_rfl)) (fun _ _ _ h => h) (Or.inl ⟨by rfl, ?_⟩) hHeld ?_ ?_
          rotate_left
          ·rintro w' ⟨s0, s1, s2, s3, s4, s5, s6, s7⟩
           go_simp
           with_reducible rfl
          rotate_left
          ·simp only [Act.put, List.setIfInBounds_toArray, List.set_cons_zero, List.set_cons_succ, i64_w, i32_w]
           rfl
          refine one_ (i := 0) (N := some 41) #[true, true, true, true, true, false, true, false, false, false, false] rfl rfl (one_of HT_.out (by kernel_rfl)) (by decide) (fun K hK => ?_)
          refine Kd.N_lit_step k40 _ 40 ?hg (N' := 41) ?hd (xs := ([] : List (S40))) (inner := []) (ok := (fun k_ => (w.heap.size ≤ k_) ∧ some k_ ≠ (.slice Ao41 t160.length co41 : Value).ownBlock ∧ k_ ≠ gb157 ∧ k_ ≠ gb158 ∧ k_ ≠ gb159 ∧ k_ ≠ gb164)) (okp := (fun k_ => (w.heap.size ≤ k_) ∧ some k_ ≠ (.slice Ao41 t160.length co41 : Value).ownBlock ∧ k_ ≠ gb157 ∧ k_ ≠ gb158 ∧ k_ ≠ gb159 ∧ k_ ≠ gb164)) ?hr ?hp (fun _ hk => hk) ((show ∀ k_, w93.heap.size ≤ k_ → (fun k_ => (w.heap.size ≤ k_) ∧ some k_ ≠ (.slice Ao41 t160.length co41 : Value).ownBlock ∧ k_ ≠ gb157 ∧ k_ ≠ gb158 ∧ k_ ≠ gb159 ∧ k_ ≠ gb164) k_ from fun k_ hk => ⟨(Nat.le_trans (below_size oB) hk), Kd.fresh' (Kd.N_lt (by (with_reducible repeat (first | apply Kd.N_alloc | apply Kd.N_drewN | apply Kd.N_drew)); exact HO_165000.out)) k_ hk, Kd.freshB (g := gb157) (o := .cells #[.slice A0_0 l0_0.length c0_0, .int .i64 a0_1] 34 (0, 0)) (oF BK157) k_ hk, Kd.freshB (g := gb158) (o := .cells #[.int .i64 a1_0, .int .i64 a1_1, .int .i64 a1_2, .slice A1_3 l1_3.length c1_3, .slice A1_4 l1_4.length c1_4, .slice A1_5 l1_5.length c1_5] 40 (0, 0)) (oF BK158) k_ hk, Kd.freshB (g := gb159) (o := .cells #[.slice none 0 0, .int .i64 0] 34 (0, 0)) (oF BK159) k_ hk, Kd.freshB (g := gb164) (o := .cells #[.slice Ao41 t160.length co41, .int .i64 t163] 34 (0, 0)) (oF BK164) k_ hk⟩) _ (Nat.le_refl _)) (Below.refl _ _) (Nat.le_refl _) (by simp) ?_; (case hd => rfl); (case hg => rfl); (case hr => first | (go_simp; done) | (go_simp; rfl)); (case hp => exact (Reps.none _ _))
          intro v215 w95 ho96 hb hg_ hnew_
          clear hg_ hnew_
          (first | rw [← Ny214.out] at ho96 | (simp only [Int.reduceToNat] at ho96; rw [← Ny214.out] at ho96))
          have HO216 := Aside0.mk (Kd.N_lower ho96 (below_size oB))
          replace HO_165000 := Aside0.mk (Kd.N_elder' (by (with_reducible repeat (first | apply Kd.N_alloc | apply Kd.N_drewN | apply Kd.N_drew)); exact HO_165000.out) (Kd.N_base ho96) hb)
          replace HO221 := Aside0.mk (Kd.V_elder' (by (with_reducible repeat (first | apply Kd.V_alloc | apply Kd.V_drewN | apply Kd.V_drew)); exact HO221.out) (Kd.N_base ho96) hb)
          replace BK157 := kb_ BK157 hb
          replace BK158 := kb_ BK158 hb
          replace BK159 := kb_ BK159 hb
          replace BK164 := kb_ BK164 hb
          replace HB := Aside0.mk (below_step oB hb)
          clear hb ho96
          refine hK.out _ _ oH (fun hHeld => ?_)
          clear hK K
          refine norm_ (a' := ?_) ?_ ?_
          rotate_left
          ·show Act.put _ (some 41) _ = _
           simp only [Act.put, List.setIfInBounds_toArray, List.set_cons_zero, List.set_cons_succ, i64_w, i32_w]
           rfl
          refine one_ (i := 5) (N := some 46) #[true, true, true, true, true, true, true, false, false, false, false] rfl rfl (one_of HT_.out (by kernel_rfl)) (by decide) (fun K hK => ?_)
          refine Kd.N_append_rows_step k40 (w0 := w) w.heap.size (by rfl) (.tmp 41) (.tmp 45) 32 40 (.agg #[(.int .i64 0), (.int .i64 0), (.int .i64 0), (.slice none 0 0), (.slice none 0 0), (.slice none 0 0)]) 96 rfl Try.underlying32 info40 rfl (by decide) (by omega) v215 y214 y217 _ _ _ (fun k_ => (w.heap.size ≤ k_) ∧ k_ ≠ gb157 ∧ k_ ≠ gb158 ∧ k_ ≠ gb159 ∧ k_ ≠ gb164) (fun k_ => ((fun k_ => (w.heap.size ≤ k_) ∧ k_ ≠ gb157 ∧ k_ ≠ gb158 ∧ k_ ≠ gb159 ∧ k_ ≠ gb164)) k_ ∧ some k_ ≠ (v215 : Value).ownBlock) rfl rfl ?aO ?aR (fun _ hk => hk) ?aF ?aB ?aS ?aL ?_
          (case aR => exact (by skip; exact Kd.V_F (Kd.V_mono (ok' := (fun k_ => ((fun k_ => (w.heap.size ≤ k_) ∧ k_ ≠ gb157 ∧ k_ ≠ gb158 ∧ k_ ≠ gb159 ∧ k_ ≠ gb164)) k_ ∧ some k_ ≠ (v215 : Value).ownBlock)) (HO221.out) (fun k_ hk => ⟨⟨hk.1.1, ⟨hk.1.2.1, ⟨hk.1.2.2.1, ⟨hk.1.2.2.2.1, hk.1.2.2.2.2⟩⟩⟩⟩, hk.2⟩))))
          (case aB => exact oB)
          (case aF => exact (fun k_ hk => ⟨(Nat.le_trans (below_size oB) hk), Kd.freshB (g := gb157) (o := .cells #[.slice A0_0 l0_0.length c0_0, .int .i64 a0_1] 34 (0, 0)) (oF BK157) k_ hk, Kd.freshB (g := gb158) (o := .cells #[.int .i64 a1_0, .int .i64 a1_1, .int .i64 a1_2, .slice A1_3 l1_3.length c1_3, .slice A1_4 l1_4.length c1_4, .slice A1_5 l1_5.length c1_5] 40 (0, 0)) (oF BK158) k_ hk, Kd.freshB (g := gb159) (o := .cells #[.slice none 0 0, .int .i64 0] 34 (0, 0)) (oF BK159) k_ hk, Kd.freshB (g := gb164) (o := .cells #[.slice Ao41 t160.length co41, .int .i64 t163] 34 (0, 0)) (oF BK164) k_ hk⟩))
          (case aO => exact (by (with_reducible repeat (first | apply Kd.N_alloc | apply Kd.N_drewN | apply Kd.N_drew)); exact Kd.N_mono HO216.out (fun _ hk => ⟨hk.1, ⟨hk.2.2.1, ⟨hk.2.2.2.1, ⟨hk.2.2.2.2.1, hk.2.2.2.2.2⟩⟩⟩⟩)))
          (case aS => exact (below_size oB))
          (case aL => have := LMc86.out; omega)
          intro v223 w97 ho hb hg hat
          rw [← Ny222.out] at ho
          have HO224 := Aside0.mk (ho)
          replace HO_165000 := Aside0.mk (Kd.N_afterv (ok := (fun k_ => (w.heap.size ≤ k_) ∧ k_ ≠ gb157 ∧ k_ ≠ gb158 ∧ k_ ≠ gb159 ∧ k_ ≠ gb164)) (by (with_reducible repeat (first | apply Kd.N_alloc | apply Kd.N_drewN | apply Kd.N_drew)); exact HO_165000.out) hg hat)
          replace BK157 := Aside0.mk (blk_grown (g := gb157) (o := .cells #[.slice A0_0 l0_0.length c0_0, .int .i64 a0_1] 34 (0, 0)) (oF BK157) hg (Kd.N_ne HO216.out BK157.out (by decide)))
          replace BK158 := Aside0.mk (blk_grown (g := gb158) (o := .cells #[.int .i64 a1_0, .int .i64 a1_1, .int .i64 a1_2, .slice A1_3 l1_3.length c1_3, .slice A1_4 l1_4.length c1_4, .slice A1_5 l1_5.length c1_5] 40 (0, 0)) (oF BK158) hg (Kd.N_away HO216.out (fun _ hk => hk.2.2.2.1)))
          replace BK159 := Aside0.mk (blk_grown (g := gb159) (o := .cells #[.slice none 0 0, .int .i64 0] 34 (0, 0)) (oF BK159) hg (Kd.N_ne HO216.out BK159.out (by decide)))
          replace BK164 := Aside0.mk (blk_grown (g := gb164) (o := .cells #[.slice Ao41 t160.length co41, .int .i64 t163] 34 (0, 0)) (oF BK164) hg (Kd.N_ne HO216.out BK164.out (by decide)))
          replace HO221 := Aside0.mk (Kd.V_afterv (ok := (fun k_ => (w.heap.size ≤ k_) ∧ k_ ≠ gb157 ∧ k_ ≠ gb158 ∧ k_ ≠ gb159 ∧ k_ ≠ gb164)) (by (with_reducible repeat (first | apply Kd.V_alloc | apply Kd.V_drewN | apply Kd.V_drew)); exact HO221.out) hg hat)
          replace HB := Aside0.mk (hb)
          clear HO216
          clear ho hb hg hat
          refine hK.out _ _ oH (fun hHeld => ?_)
          clear hK K
          refine norm_ (a' := ?_) ?_ ?_
          rotate_left
          ·show Act.put _ (some 46) _ = _
           simp only [Act.put, List.setIfInBounds_toArray, List.set_cons_zero, List.set_cons_succ, i64_w, i32_w]
           rfl
          refine one_ (i := 7) (N := some 48) #[true, true, true, true, true, true, true, true, false, false, false] rfl rfl (one_of HT_.out (by kernel_rfl)) (by decide) (fun K hK => ?_)
          refine gr_ 48 Try.func37 (spec_l3Copy.calls a1_0 a1_1 a1_2 _ _ l1_3 _ _ l1_4 _ _ l1_5 t225 t226 t227 t228 t231 t234 _ (kC HR1_3) HC1_3.out (kC HR1_4) HC1_4.out (kC HR1_5) HC1_5.out A87.out) ?_
          rintro e w98 ⟨v229, v232, v235, rfl, ho0, ho1, ho2, hb⟩
          refine ⟨_, rfl, ?_⟩
          have HO230 := Aside0.mk (Kd.R_lower (Kd.R_newM (M := fun k_ => (w.heap.size ≤ k_)) ho0 (below_size oB) (fun k_ h_ => h_)) (below_size oB))
          have HO233 := Aside0.mk (Kd.R_lower (Kd.R_newM (M := fun k_ => (w.heap.size ≤ k_)) ho1 (below_size oB) (fun k_ h_ => h_)) (below_size oB))
          have HO236 := Aside0.mk (Kd.R_lower (Kd.R_newM (M := fun k_ => (w.heap.size ≤ k_)) ho2 (below_size oB) (fun k_ h_ => h_)) (below_size oB))
          replace HO_165000 := Aside0.mk (Kd.N_mono (Kd.N_told (Kd.N_told (Kd.N_told (Kd.N_old (by (with_reducible repeat (first | apply Kd.N_alloc | apply Kd.N_drewN | apply Kd.N_drew)); exact HO_165000.out) hb) (Kd.R_base ho0)) (Kd.R_base ho1)) (Kd.R_base ho2)) (fun _ h_ => h_.1))
          replace HO221 := Aside0.mk (Kd.V_mono (Kd.V_told (Kd.V_told (Kd.V_told (Kd.V_old (by (with_reducible repeat (first | apply Kd.V_alloc | apply Kd.V_drewN | apply Kd.V_drew)); exact HO221.out) hb) (Kd.R_base ho0)) (Kd.R_base ho1)) (Kd.R_base ho2)) (fun _ h_ => h_.1))
          replace HO224 := Aside0.mk (Kd.N_mono (Kd.N_told (Kd.N_told (Kd.N_told (Kd.N_old (by (with_reducible repeat (first | apply Kd.N_alloc | apply Kd.N_drewN | apply Kd.N_drew)); exact HO224.out) hb) (Kd.R_base ho0)) (Kd.R_base ho1)) (Kd.R_base ho2)) (fun _ h_ => h_.1))
          replace BK157 := kb_ BK157 hb
          replace BK158 := kb_ BK158 hb
          replace BK159 := kb_ BK159 hb
          replace BK164 := kb_ BK164 hb
          replace HB := Aside0.mk (below_step oB hb)
          (try clear ho1)
          (try clear ho2)
          obtain ⟨Ao100, co100, eo100⟩ := Kd.R_slice HO230.out
          (first | subst eo100 | (injection eo100 with f1_ f2_ f3_; have f4_ := f1_.symm; have f5_ := f3_.symm; clear f1_ f2_ f3_; subst f4_; subst f5_))
          obtain ⟨Ao101, co101, eo101⟩ := Kd.R_slice HO233.out
          (first | subst eo101 | (injection eo101 with f1_ f2_ f3_; have f4_ := f1_.symm; have f5_ := f3_.symm; clear f1_ f2_ f3_; subst f4_; subst f5_))
          obtain ⟨Ao102, co102, eo102⟩ := Kd.R_slice HO236.out
          (first | subst eo102 | (injection eo102 with f1_ f2_ f3_; have f4_ := f1_.symm; have f5_ := f3_.symm; clear f1_ f2_ f3_; subst f4_; subst f5_))
          refine hK.out _ _ oH (fun hHeld => ?_)
          clear hK K
          refine norm_ (a' := ?_) ?_ ?_
          rotate_left
          ·show Act.put _ (some 48) _ = _
           simp only [Act.put, List.setIfInBounds_toArray, List.set_cons_zero, List.set_cons_succ, i64_w, i32_w]
           rfl
          refine one_ (i := 8) (N := some 49) #[true, true, true, true, true, true, true, true, true, false, false] rfl rfl (one_of HT_.out (by kernel_rfl)) (by decide) (fun K hK => ?_)
          refine value_ (w1 := ?_) (v := ?_) (by rfl) rfl ?_ ?_
          rotate_left 2
          ·go_simp
           constructor
           ·rfl
           ·rfl
          refine hK.out _ _ ⟨(blk_cell (blk_alloc BK164.out _) 0).trans rfl, (blk_cell (blk_alloc BK164.out _) 1).trans rfl, (blk_cell (blk_alloc BK158.out _) 0).trans rfl, (blk_cell (blk_alloc BK158.out _) 1).trans rfl, (blk_cell (blk_alloc BK158.out _) 2).trans rfl, (blk_cell (blk_alloc BK158.out _) 3).trans rfl, (blk_cell (blk_alloc BK158.out _) 4).trans rfl, (blk_cell (blk_alloc BK158.out _) 5).trans rfl⟩ (fun hHeld => ?_)
          clear hK K
          refine norm_ (a' := ?_) ?_ ?_
          rotate_left
          ·show Act.put _ (some 49) _ = _
           simp only [Act.put, List.setIfInBounds_toArray, List.set_cons_zero, List.set_cons_succ, i64_w, i32_w]
           rfl
          refine one_ (i := 9) (N := some 50) #[true, true, true, true, true, true, true, true, true, true, false] rfl rfl (one_of HT_.out (by kernel_rfl)) (by decide) (fun K hK => ?_)
          refine Kd.N_append_step k40 (w0 := w) w.heap.size (by rfl) (.tmp 46) (.tmp 49) 32 40 (.agg #[(.int .i64 0), (.int .i64 0), (.int .i64 0), (.slice none 0 0), (.slice none 0 0), (.slice none 0 0)]) 96 rfl Try.underlying32 info40 rfl (by decide) (by omega) v223 y222 (⟨t225, t226, t227, t228, t231, t234⟩ : S40) [.int .i64 t225, .int .i64 t226, .int .i64 t227, .slice Ao100 t228.length co100, .slice Ao101 t231.length co101, .slice Ao102 t234.length co102] (fun k_ => (w.heap.size ≤ k_) ∧ k_ ≠ gb157 ∧ k_ ≠ gb158 ∧ k_ ≠ gb159 ∧ k_ ≠ gb164) (fun k_ => ((fun k_ => (w.heap.size ≤ k_) ∧ k_ ≠ gb157 ∧ k_ ≠ gb158 ∧ k_ ≠ gb159 ∧ k_ ≠ gb164)) k_ ∧ some k_ ≠ (v223 : Value).ownBlock) rfl rfl ?aP (fun _ hk => hk) ?aF ?aO ?aB ?aS ?aL ?_
          (case aP => exact (k40_mkF _ _ (⟨t225, t226, t227, t228, t231, t234⟩ : S40) (Kd.R_reads' (Kd.R_mono (ok' := (fun k_ => ((fun k_ => (w.heap.size ≤ k_) ∧ k_ ≠ gb157 ∧ k_ ≠ gb158 ∧ k_ ≠ gb159 ∧ k_ ≠ gb164)) k_ ∧ some k_ ≠ (v223 : Value).ownBlock)) (Kd.R_types (Kd.R_types (Kd.R_types (Kd.R_types (Kd.R_apart' (HO230.out) (Kd.N_typed HO224.out) (by decide)) BK157.out (by decide)) BK158.out (by decide)) BK159.out (by decide)) BK164.out (by decide)) (fun k_ hk => ⟨⟨hk.1.1.1.1.1.1, ⟨hk.1.1.1.2, ⟨hk.1.1.2, ⟨hk.1.2, hk.2⟩⟩⟩⟩, hk.1.1.1.1.2⟩))).2.1 (Kd.R_F (Kd.R_mono (ok' := (fun k_ => ((fun k_ => (w.heap.size ≤ k_) ∧ k_ ≠ gb157 ∧ k_ ≠ gb158 ∧ k_ ≠ gb159 ∧ k_ ≠ gb164)) k_ ∧ some k_ ≠ (v223 : Value).ownBlock)) (Kd.R_types (Kd.R_types (Kd.R_types (Kd.R_types (Kd.R_apart' (HO230.out) (Kd.N_typed HO224.out) (by decide)) BK157.out (by decide)) BK158.out (by decide)) BK159.out (by decide)) BK164.out (by decide)) (fun k_ hk => ⟨⟨hk.1.1.1.1.1.1, ⟨hk.1.1.1.2, ⟨hk.1.1.2, ⟨hk.1.2, hk.2⟩⟩⟩⟩, hk.1.1.1.1.2⟩))) (Kd.R_reads' (Kd.R_mono (ok' := (fun k_ => ((fun k_ => (w.heap.size ≤ k_) ∧ k_ ≠ gb157 ∧ k_ ≠ gb158 ∧ k_ ≠ gb159 ∧ k_ ≠ gb164)) k_ ∧ some k_ ≠ (v223 : Value).ownBlock)) (Kd.R_types (Kd.R_types (Kd.R_types (Kd.R_types (Kd.R_apart' (HO233.out) (Kd.N_typed HO224.out) (by decide)) BK157.out (by decide)) BK158.out (by decide)) BK159.out (by decide)) BK164.out (by decide)) (fun k_ hk => ⟨⟨hk.1.1.1.1.1.1, ⟨hk.1.1.1.2, ⟨hk.1.1.2, ⟨hk.1.2, hk.2⟩⟩⟩⟩, hk.1.1.1.1.2⟩))).2.1 (Kd.R_F (Kd.R_mono (ok' := (fun k_ => ((fun k_ => (w.heap.size ≤ k_) ∧ k_ ≠ gb157 ∧ k_ ≠ gb158 ∧ k_ ≠ gb159 ∧ k_ ≠ gb164)) k_ ∧ some k_ ≠ (v223 : Value).ownBlock)) (Kd.R_types (Kd.R_types (Kd.R_types (Kd.R_types (Kd.R_apart' (HO233.out) (Kd.N_typed HO224.out) (by decide)) BK157.out (by decide)) BK158.out (by decide)) BK159.out (by decide)) BK164.out (by decide)) (fun k_ hk => ⟨⟨hk.1.1.1.1.1.1, ⟨hk.1.1.1.2, ⟨hk.1.1.2, ⟨hk.1.2, hk.2⟩⟩⟩⟩, hk.1.1.1.1.2⟩))) (Kd.R_reads' (Kd.R_mono (ok' := (fun k_ => ((fun k_ => (w.heap.size ≤ k_) ∧ k_ ≠ gb157 ∧ k_ ≠ gb158 ∧ k_ ≠ gb159 ∧ k_ ≠ gb164)) k_ ∧ some k_ ≠ (v223 : Value).ownBlock)) (Kd.R_types (Kd.R_types (Kd.R_types (Kd.R_types (Kd.R_apart' (HO236.out) (Kd.N_typed HO224.out) (by decide)) BK157.out (by decide)) BK158.out (by decide)) BK159.out (by decide)) BK164.out (by decide)) (fun k_ hk => ⟨⟨hk.1.1.1.1.1.1, ⟨hk.1.1.1.2, ⟨hk.1.1.2, ⟨hk.1.2, hk.2⟩⟩⟩⟩, hk.1.1.1.1.2⟩))).2.1 (Kd.R_F (Kd.R_mono (ok' := (fun k_ => ((fun k_ => (w.heap.size ≤ k_) ∧ k_ ≠ gb157 ∧ k_ ≠ gb158 ∧ k_ ≠ gb159 ∧ k_ ≠ gb164)) k_ ∧ some k_ ≠ (v223 : Value).ownBlock)) (Kd.R_types (Kd.R_types (Kd.R_types (Kd.R_types (Kd.R_apart' (HO236.out) (Kd.N_typed HO224.out) (by decide)) BK157.out (by decide)) BK158.out (by decide)) BK159.out (by decide)) BK164.out (by decide)) (fun k_ hk => ⟨⟨hk.1.1.1.1.1.1, ⟨hk.1.1.1.2, ⟨hk.1.1.2, ⟨hk.1.2, hk.2⟩⟩⟩⟩, hk.1.1.1.1.2⟩)))))
          (case aB => exact oB)
          (case aF => exact (fun k_ hk => ⟨(Nat.le_trans (below_size oB) hk), Kd.freshB (g := gb157) (o := .cells #[.slice A0_0 l0_0.length c0_0, .int .i64 a0_1] 34 (0, 0)) (oF BK157) k_ hk, Kd.freshB (g := gb158) (o := .cells #[.int .i64 a1_0, .int .i64 a1_1, .int .i64 a1_2, .slice A1_3 l1_3.length c1_3, .slice A1_4 l1_4.length c1_4, .slice A1_5 l1_5.length c1_5] 40 (0, 0)) (oF BK158) k_ hk, Kd.freshB (g := gb159) (o := .cells #[.slice none 0 0, .int .i64 0] 34 (0, 0)) (oF BK159) k_ hk, Kd.freshB (g := gb164) (o := .cells #[.slice Ao41 t160.length co41, .int .i64 t163] 34 (0, 0)) (oF BK164) k_ hk⟩))
          (case aO => exact (by (with_reducible repeat (first | apply Kd.N_alloc | apply Kd.N_drewN | apply Kd.N_drew)); exact Kd.N_mono HO224.out (fun _ hk => ⟨hk.1.1.1.1, ⟨hk.1.1.1.2.1, ⟨hk.1.1.1.2.2.1, ⟨hk.1.1.1.2.2.2.1, hk.1.1.1.2.2.2.2⟩⟩⟩⟩)))
          (case aS => exact (below_size oB))
          (case aL => have := LMc88.out; omega)
          intro v238 w99 ho hb hg hat
          rw [← Ny237.out] at ho
          have HO239 := Aside0.mk (ho)
          replace HO_165000 := Aside0.mk (Kd.N_afterv (ok := (fun k_ => (w.heap.size ≤ k_) ∧ some k_ ≠ (.slice Ao100 t228.length co100 : Value).ownBlock ∧ some k_ ≠ (.slice Ao101 t231.length co101 : Value).ownBlock ∧ some k_ ≠ (.slice Ao102 t234.length co102 : Value).ownBlock ∧ k_ ≠ gb157 ∧ k_ ≠ gb158 ∧ k_ ≠ gb159 ∧ k_ ≠ gb164)) (by (with_reducible repeat (first | apply Kd.N_alloc | apply Kd.N_drewN | apply Kd.N_drew)); exact Kd.N_mono HO_165000.out (fun _ hk => ⟨⟨hk.1.1.1.1.1, ⟨hk.1.1.2, ⟨hk.1.2, ⟨hk.2, ⟨hk.1.1.1.1.2.1, ⟨hk.1.1.1.1.2.2.1, ⟨hk.1.1.1.1.2.2.2.1, hk.1.1.1.1.2.2.2.2⟩⟩⟩⟩⟩⟩⟩, hk.1.1.1.2⟩)) hg hat)
          replace BK157 := Aside0.mk (blk_grown (g := gb157) (o := .cells #[.slice A0_0 l0_0.length c0_0, .int .i64 a0_1] 34 (0, 0)) (oF BK157) hg (Kd.N_ne HO224.out BK157.out (by decide)))
          replace BK158 := Aside0.mk (blk_grown (g := gb158) (o := .cells #[.int .i64 a1_0, .int .i64 a1_1, .int .i64 a1_2, .slice A1_3 l1_3.length c1_3, .slice A1_4 l1_4.length c1_4, .slice A1_5 l1_5.length c1_5] 40 (0, 0)) (oF BK158) hg (Kd.N_away HO224.out (fun _ hk => hk.1.1.1.2.2.1)))
          replace BK159 := Aside0.mk (blk_grown (g := gb159) (o := .cells #[.slice none 0 0, .int .i64 0] 34 (0, 0)) (oF BK159) hg (Kd.N_ne HO224.out BK159.out (by decide)))
          replace BK164 := Aside0.mk (blk_grown (g := gb164) (o := .cells #[.slice Ao41 t160.length co41, .int .i64 t163] 34 (0, 0)) (oF BK164) hg (Kd.N_ne HO224.out BK164.out (by decide)))
          replace HO221 := Aside0.mk (Kd.V_afterv (ok := (fun k_ => (w.heap.size ≤ k_) ∧ some k_ ≠ (.slice Ao100 t228.length co100 : Value).ownBlock ∧ some k_ ≠ (.slice Ao101 t231.length co101 : Value).ownBlock ∧ some k_ ≠ (.slice Ao102 t234.length co102 : Value).ownBlock ∧ k_ ≠ gb157 ∧ k_ ≠ gb158 ∧ k_ ≠ gb159 ∧ k_ ≠ gb164)) (by (with_reducible repeat (first | apply Kd.V_alloc | apply Kd.V_drewN | apply Kd.V_drew)); exact Kd.V_mono HO221.out (fun _ hk => ⟨⟨hk.1.1.1.1.1, ⟨hk.1.1.2, ⟨hk.1.2, ⟨hk.2, ⟨hk.1.1.1.1.2.1, ⟨hk.1.1.1.1.2.2.1, ⟨hk.1.1.1.1.2.2.2.1, hk.1.1.1.1.2.2.2.2⟩⟩⟩⟩⟩⟩⟩, hk.1.1.1.2⟩)) hg hat)
          replace HB := Aside0.mk (hb)
          clear HO224
          clear HO230
          clear HO233
          clear HO236
          clear ho hb hg hat
          refine hK.out _ _ oH (fun hHeld => ?_)
          clear hK K
          refine norm_ (a' := ?_) ?_ ?_
          rotate_left
          ·show Act.put _ (some 50) _ = _
           simp only [Act.put, List.setIfInBounds_toArray, List.set_cons_zero, List.set_cons_succ, i64_w, i32_w]
           rfl
          refine pure_ (i := 10) (N := some 7) (v := ?_) (a' := ?_) #[true, true, true, true, true, true, true, true, true, true, true] rfl rfl (any_of HT_.out (by kernel_rfl)) (fun _ _ _ h => h) (Or.inl ⟨by rfl, ?_⟩) ?_ ?_
          rotate_left
          ·intro w'
           go_simp
           with_reducible rfl
          rotate_left
          ·simp only [Act.put, List.setIfInBounds_toArray, List.set_cons_zero, List.set_cons_succ, i64_w, i32_w]
           rfl
          refine done_ (done_of HT_.out (by kernel_rfl)) ?_
          have hnb103 := NB164_157.out
          have hnc103 := NB157_164.out
          have hnb104 := NB164_158.out
          have hnc104 := NB158_164.out
          have hnb105 := NB164_159.out
          have hnc105 := NB159_164.out
          obtain ⟨⟨_, _⟩, _, _⟩ := z2 BK164
          have q107 : (x6_1 : Int) ≤ ((t160.length : Int) : Int) := oa
          obtain ⟨i0107, hi0107, _, hsz107, _⟩ := info_parts info40
          have hroom107 : t160.length ≤ co41 := (Kd.N_reads' HO_165000.out).2.1
          have hC107 : Kd.F k40 _ _ Ao41 t160.length t160 := (Kd.V_at (base := w.heap.size) (Kd.N_V HO_165000.out)).2.2
          have q0107 : (0 : Int) ≤ (x6_1 : Int) := oa
          have hcut107 := cut_from (P := Try.prog) 32 40 .i64 Try.underlying32 hi0107 6 hsz107 Ao41 t160.length co41 x6_1 q0107 q107
          have hr107 := Kd.F_cut (m := (x6_1 : Int).toNat) (c := co41) hC107 (by omega) hroom107
          obtain ⟨A107, hA107⟩ : ∃ A1, A1 = (if co41 = (x6_1 : Int).toNat then Ao41 else (Ao41 : Option Addr).map (·.add ((x6_1 : Int).toNat * 6))) := ⟨_, rfl⟩
          obtain ⟨c107, hc107⟩ : ∃ c1, c1 = co41 - (x6_1 : Int).toNat := ⟨_, rfl⟩
          have hy107 : y240.length = t160.length - (x6_1 : Int).toNat := (by rw [Ny240.out, List.length_drop] <;> omega)
          rw [show (t160).drop (x6_1 : Int).toNat = y240 from Ny240.out.symm] at hr107
          replace hr107 : Kd.F k40 _ _ A107 y240.length y240 := (by rw [hA107]; exact hr107)
          rw [← hy107, ← hA107, ← hc107] at hcut107
          have HO244 := Aside0.mk (show Kd.V k40 40 _ w.heap.size _ (.slice A107 y240.length c107) y240 from Kd.V_mk (by rw [hy107, hc107]; exact Nat.sub_le_sub_right hroom107 _) hr107)
          have HC244 := Aside0.mk (show y240.length ≤ c107 from by rw [hy107, hc107]; exact Nat.sub_le_sub_right hroom107 _)
          clear hr107 hC107 hroom107 hi0107 hsz107 hc107
          have KY107 := Aside0.mk hy107
          have KA107 := Aside0.mk hA107
          clear hy107 hA107
          replace q107 := eq_true q107
          try go_wp2_with (first | ((with_reducible refine gate_builtin (b := .append) (xs := #[.tmp 51, .tmp 55]) rfl ?_); at_builtin; refine Kd.N_append_rows k40 (w0 := w) w.heap.size rfl (.tmp 51) (.tmp 55) 32 40 (.agg #[(.int .i64 0), (.int .i64 0), (.int .i64 0), (.slice none 0 0), (.slice none 0 0), (.slice none 0 0)]) 96 rfl Try.underlying32 info40 rfl (by decide) (by omega) v238 y237 y240 _ _ _ (fun k_ => (w.heap.size ≤ k_) ∧ k_ ≠ gb157 ∧ k_ ≠ gb158 ∧ k_ ≠ gb159 ∧ k_ ≠ gb164) (fun k_ => ((fun k_ => (w.heap.size ≤ k_) ∧ k_ ≠ gb157 ∧ k_ ≠ gb158 ∧ k_ ≠ gb159 ∧ k_ ≠ gb164)) k_ ∧ some k_ ≠ (v238 : Value).ownBlock) rfl rfl ?aO ?aR (fun _ hk => hk) ?aF ?aB ?aS ?aL ?_; (case aR => exact (by skip; exact Kd.V_F (Kd.V_mono (ok' := (fun k_ => ((fun k_ => (w.heap.size ≤ k_) ∧ k_ ≠ gb157 ∧ k_ ≠ gb158 ∧ k_ ≠ gb159 ∧ k_ ≠ gb164)) k_ ∧ some k_ ≠ (v238 : Value).ownBlock)) (HO244.out) (fun k_ hk => ⟨⟨hk.1.1, ⟨hk.1.2.2.2.2.1, ⟨hk.1.2.2.2.2.2.1, ⟨hk.1.2.2.2.2.2.2.1, hk.1.2.2.2.2.2.2.2⟩⟩⟩⟩, hk.2⟩)))); (case aB => exact oB); (case aF => exact (fun k_ hk => ⟨(Nat.le_trans (below_size oB) hk), Kd.freshB (g := gb157) (o := .cells #[.slice A0_0 l0_0.length c0_0, .int .i64 a0_1] 34 (0, 0)) (oF BK157) k_ hk, Kd.freshB (g := gb158) (o := .cells #[.int .i64 a1_0, .int .i64 a1_1, .int .i64 a1_2, .slice A1_3 l1_3.length c1_3, .slice A1_4 l1_4.length c1_4, .slice A1_5 l1_5.length c1_5] 40 (0, 0)) (oF BK158) k_ hk, Kd.freshB (g := gb159) (o := .cells #[.slice none 0 0, .int .i64 0] 34 (0, 0)) (oF BK159) k_ hk, Kd.freshB (g := gb164) (o := .cells #[.slice Ao41 t160.length co41, .int .i64 t163] 34 (0, 0)) (oF BK164) k_ hk⟩)); (case aO => exact (by (with_reducible repeat (first | apply Kd.N_alloc | apply Kd.N_drewN | apply Kd.N_drew)); exact HO239.out)); (case aS => exact (below_size oB)); (case aL => have := LMc91.out; omega); intro v246 w108 ho hb hg hat; rw [← Ny245.out] at ho; have HO247 := Aside0.mk (ho); replace HO_165000 := Aside0.mk (Kd.N_afterv (ok := (fun k_ => (w.heap.size ≤ k_) ∧ k_ ≠ gb157 ∧ k_ ≠ gb158 ∧ k_ ≠ gb159 ∧ k_ ≠ gb164)) (by (with_reducible repeat (first | apply Kd.N_alloc | apply Kd.N_drewN | apply Kd.N_drew)); exact Kd.N_mono HO_165000.out (fun _ hk => ⟨⟨hk.1.1, ⟨hk.1.2.2.2.2.1, ⟨hk.1.2.2.2.2.2.1, ⟨hk.1.2.2.2.2.2.2.1, hk.1.2.2.2.2.2.2.2⟩⟩⟩⟩, hk.2⟩)) hg hat); replace BK157 := Aside0.mk (blk_grown (g := gb157) (o := .cells #[.slice A0_0 l0_0.length c0_0, .int .i64 a0_1] 34 (0, 0)) (oF BK157) hg (Kd.N_ne HO239.out BK157.out (by decide))); replace BK158 := Aside0.mk (blk_grown (g := gb158) (o := .cells #[.int .i64 a1_0, .int .i64 a1_1, .int .i64 a1_2, .slice A1_3 l1_3.length c1_3, .slice A1_4 l1_4.length c1_4, .slice A1_5 l1_5.length c1_5] 40 (0, 0)) (oF BK158) hg (Kd.N_away HO239.out (fun _ hk => hk.2.2.1))); replace BK159 := Aside0.mk (blk_grown (g := gb159) (o := .cells #[.slice none 0 0, .int .i64 0] 34 (0, 0)) (oF BK159) hg (Kd.N_ne HO239.out BK159.out (by decide))); replace BK164 := Aside0.mk (blk_grown (g := gb164) (o := .cells #[.slice Ao41 t160.length co41, .int .i64 t163] 34 (0, 0)) (oF BK164) hg (Kd.N_ne HO239.out BK164.out (by decide))); replace HO221 := Aside0.mk (Kd.V_afterv (ok := (fun k_ => (w.heap.size ≤ k_) ∧ k_ ≠ gb157 ∧ k_ ≠ gb158 ∧ k_ ≠ gb159 ∧ k_ ≠ gb164)) (by (with_reducible repeat (first | apply Kd.V_alloc | apply Kd.V_drewN | apply Kd.V_drew)); exact Kd.V_mono HO221.out (fun _ hk => ⟨⟨hk.1.1, ⟨hk.1.2.2.2.2.1, ⟨hk.1.2.2.2.2.2.1, ⟨hk.1.2.2.2.2.2.2.1, hk.1.2.2.2.2.2.2.2⟩⟩⟩⟩, hk.2⟩)) hg hat); replace HO244 := Aside0.mk (Kd.V_afterv (ok := (fun k_ => (w.heap.size ≤ k_) ∧ k_ ≠ gb157 ∧ k_ ≠ gb158 ∧ k_ ≠ gb159 ∧ k_ ≠ gb164)) (by (with_reducible repeat (first | apply Kd.V_alloc | apply Kd.V_drewN | apply Kd.V_drew)); exact Kd.V_mono HO244.out (fun _ hk => ⟨⟨hk.1.1, ⟨hk.1.2.2.2.2.1, ⟨hk.1.2.2.2.2.2.1, ⟨hk.1.2.2.2.2.2.2.1, hk.1.2.2.2.2.2.2.2⟩⟩⟩⟩, hk.2⟩)) hg hat); replace HB := Aside0.mk (hb); clear HO239; clear ho hb hg hat; obtain ⟨Ao109, co109, eo109⟩ := Kd.N_slice HO247.out; subst eo109; obtain ⟨⟨_, _⟩, _, _⟩ := z2 BK164; have hnb111 := NB159_157.out; have hnc111 := NB157_159.out; have hnb112 := NB159_158.out; have hnc112 := NB158_159.out; obtain ⟨⟨_, _⟩, _, _⟩ := z2 BK159))
          refine bodyPost_ret (results_cell_row rfl _ _ gb159 34 #[.slice Ao109 y245.length co109, .int .i64 t163] (0, 0) _ rfl (by (with_reducible repeat (first | refine blk_drewN ?_ _ | refine blk_drew ?_ | refine blk_alloc ?_ _)); refine blk_put (cs := #[.slice Ao109 y245.length co109, .int .i64 0]) ?_ 1 _ rfl; (with_reducible repeat (first | refine blk_drewN ?_ _ | refine blk_drew ?_ | refine blk_alloc ?_ _)); refine blk_put (cs := #[.slice none 0 0, .int .i64 0]) ?_ 0 _ rfl; (with_reducible repeat (first | refine blk_drewN ?_ _ | refine blk_drew ?_ | refine blk_alloc ?_ _)); refine blk_far ?_ NB159_164.out _; (with_reducible repeat (first | refine blk_drewN ?_ _ | refine blk_drew ?_ | refine blk_alloc ?_ _)); exact BK159.out) Try.underlying34 rfl (by kernel_rfl)) rfl ?_
          exact ⟨_, oE, by (with_reducible repeat (first | apply Kd.N_alloc | apply Kd.N_drewN | apply Kd.N_drew)); exact Kd.N_mono (Kd.N_far (p := ⟨gb159, 1, none⟩) (Kd.N_far (p := ⟨gb159, 0, none⟩) (Kd.N_far (p := ⟨gb164, 0, none⟩) (Kd.N_mono (Kd.N_mono HO247.out (fun k_ hk => (⟨hk, hk.2.2.2.2⟩ : _ ∧ k_ ≠ gb164))) (fun k_ hk => (⟨hk, hk.1.2.2.2.1⟩ : _ ∧ k_ ≠ gb159))) (fun _ hk => hk.1.2) (.slice Ao109 y245.length co109)) (fun _ hk => hk.2) (.slice Ao109 y245.length co109)) (fun _ hk => hk.2) (.int .i64 t163)) (fun _ hk => hk.1.1.1), oB⟩
         ·rw [if_neg c91] at H
          exact absurd H (by simp)
        ·rw [if_neg c88] at H
         exact absurd H (by simp)
       ·rw [if_neg c86] at H
        exact absurd H (by simp)
      ·rw [if_neg c85] at H
       exact absurd H (by simp)
     ·rw [if_neg c84] at H
      exact absurd H (by simp)

/-! ### laws_toByteS: function 39 -/
def laws_toByteS.l0 : Nat → List Int → List Int → Int → Option (List Int)
 | 0, _, _, _ => none
 | k + 1, x0, x3, x4 => if x4 < (x0.length : Int) then (if 0 ≤ x4 then (if x4 < (x3.length : Int) then (laws_toByteS.l0 k x0 (x3.set (x4 : Int).toNat (rd x0 x4)) (wrap64 (x4 + 1))) else (none)) else (none)) else (some x3)
def laws_toByteS.f (k : Nat) (l0 : List Int) : Option (List Int) := if 0 ≤ (l0.length : Int) then (if ((l0.length : Int) : Int).toNat ≤ 281474976710656 then (laws_toByteS.l0 k l0 (List.replicate ((l0.length : Int) : Int).toNat 0) 0) else (none)) else (none)
set_option maxHeartbeats 8000000 in
set_option maxRecDepth 100000 in
theorem laws_toByteS.calls (k : Nat) (A0 : Option Addr) (c0 : Nat) (l0 : List Int) (r : List Int) (w : World) (hr0 : Kd.C (Kd.int .u8) w A0 l0.length l0) (hc0 : l0.length ≤ c0) (h : laws_toByteS.f k l0 = some r) :
  Calls Try.prog 39 #[.slice A0 l0.length c0] w fun e w' => ∃ v0_ : Value, e = .returned (v0_) ∧ Kd.R (Kd.int .u8) 5 w' w.heap.size (fun _ => True) v0_ r ∧ Below w.heap.size w w' := by
 have HR0 := Aside0.mk hr0
 have HC0 := Aside0.mk hc0
 clear hr0 hc0
 have HB := Aside0.mk (Below.refl w.heap.size w)
 unfold laws_toByteS.f at h
 have H := h
 clear h
 by_cases c2 : 0 ≤ (l0.length : Int)
 ·rw [if_pos c2] at H
  have c2b0 := eq_true c2
  have c2b1 : decide (0 ≤ (l0.length : Int)) = true := decide_eq_true c2
  clear c2
  by_cases c3 : ((l0.length : Int) : Int).toNat ≤ 281474976710656
  ·rw [if_pos c3] at H
   have c3b0 := eq_true c3
   have c3b1 : decide (((l0.length : Int) : Int).toNat ≤ 281474976710656) = true := decide_eq_true c3
   clear c3
   obtain ⟨y248, hy248⟩ : ∃ y_ : List Int, y_ = (List.replicate ((l0.length : Int) : Int).toNat 0) := ⟨_, rfl⟩
   replace H : (laws_toByteS.l0 k l0 y248 0) = some r := by first | (rw [hy248]; with_reducible exact H) | (have H2_ := (Option.bind_some _ _).symm.trans H; rw [hy248]; with_reducible exact H2_) | (have H2_ := (Option.bind_some _ _).symm.trans H; with_reducible exact H2_) | with_reducible exact H | (rw [hy248]; exact H) | exact H
   have Ny248 := Aside0.mk hy248
   clear hy248
   have H' := Aside0.mk H
   clear H
   go_enter Try.func39, Try.ntmps39
   go_wp2_with (first | ((with_reducible refine gate_dst (N := 7) rfl ?_); refine Kd.R_make (Kd.int .u8) _ 5 rfl (N := 7) rfl 25 _ _ rfl (l0.length : Int) rfl rfl Try.underlying25 (.int .u8 0) 1 info5 rfl (by decide) (by omega) 0 (ok := fun _ => True) (okp := fun _ => True) rfl (fun _ hk => hk) trivial oa (Nat.le_trans (Nat.mul_le_mul_right _ (oa : (l0.length : Int).toNat ≤ 281474976710656)) (by omega)) (Below.refl _ _) (Nat.le_refl _) ?_; intro v249 w4 ho5 hb hg_ hnew_; clear hg_ hnew_; (first | rw [← Ny248.out] at ho5 | (simp only [Int.reduceToNat] at ho5; rw [← Ny248.out] at ho5)); have HO250 := Aside0.mk (Kd.R_lower ho5 (below_size oB)); replace HB := Aside0.mk (below_step oB hb); clear hb ho5))
   go_loopg [4] k (fun kq v4 w' => ∃ (x3_1 : List Int) (x4_1 : Int), v4 = .int .i64 x4_1 ∧ Aside0 (laws_toByteS.l0 kq l0 x3_1 x4_1 = some r) ∧ Aside0 (kq ≤ k) ∧ Aside0 (Kd.R (Kd.int .u8) 5 w' w.heap.size (fun _ => True) v249 x3_1) ∧ Aside0 (Below w.heap.size w w'))
   case atStart => exact ⟨(y248), (0), oS, H', ⟨Nat.le_refl _⟩, ⟨oR HO250⟩, ⟨oB⟩⟩
   case round =>
    clear H'
    try clear c2
    try clear c2b0
    try clear c2b1
    try clear c3
    obtain ⟨x3_1, x4_1, rfl, HA, HK1, HO_3, HB⟩ := hrel
    cases gk with
    | zero => exact absurd HA.out (by simp [laws_toByteS.l0])
    | succ k1 =>
     have H := HA.out
     clear HA
     simp only [laws_toByteS.l0] at H
     replace H := itD H
     rcases H with ⟨c6b0, H⟩ | ⟨c6b0, H⟩
     ·replace H := itD H
      rcases H with ⟨c7b0, H⟩ | ⟨c7b0, H⟩
      ·replace H := itD H
       rcases H with ⟨c8b0, H⟩ | ⟨c8b0, H⟩
       ·obtain ⟨y252, hy252⟩ : ∃ y_ : List Int, y_ = (x3_1.set (x4_1 : Int).toNat (rd l0 x4_1)) := ⟨_, rfl⟩
        replace H : (laws_toByteS.l0 k1 l0 y252 (wrap64 (x4_1 + 1))) = some r := by first | (rw [hy252]; with_reducible exact H) | (have H2_ := (Option.bind_some _ _).symm.trans H; rw [hy252]; with_reducible exact H2_) | (have H2_ := (Option.bind_some _ _).symm.trans H; with_reducible exact H2_) | with_reducible exact H | (rw [hy252]; exact H) | exact H
        have Ny252 := Aside0.mk hy252
        clear hy252
        have H' := Aside0.mk H
        clear H
        have p251 : (0 ≤ (x4_1 : Int)) = True := oT
        have q251 : (x4_1 < (l0.length : Int)) = True := oT
        obtain ⟨ad251, e251, hx251_0⟩ := Kd.at_int HR0.out x4_1 oa oa
        cases e251
        replace hx251_0 := cB HB hx251_0
        have p9 : 0 ≤ (x4_1 : Int) := oa
        have q9 : (x4_1 : Int) < ((x3_1.length : Int) : Int) := oa
        obtain ⟨go9, co9, eo9, gb9, gl9, cl9, HG9⟩ := Kd.R_form HO_3.out (by omega)
        (first | cases eo9 | (injection eo9 with ea_ en_ ec_; (first | subst ea_ | (injection ea_ with ea_; subst ea_)); subst ec_; clear en_))
        have GB9 := Aside0.mk gb9
        have GG9 := Aside0.mk HG9
        clear gb9 gl9 HG9
        obtain ⟨hx9_0, hf9_0⟩ := Kd.R_celln 0 HO_3.out (x4_1 : Int) p9 q9
        replace p9 := eq_true p9
        replace q9 := eq_true q9
        have HP10 := Kd.R_putg HO_3.out (x4_1 : Int) (rd l0 x4_1)
        go_wp2_with (first | ((with_reducible refine gate_store (t := 5) (p := 20) rfl ?_); refine store_event (t := 5) (p := 20) (v := ?vo_w11) (w1 := (wr.setCell ⟨go9, (x4_1 : Int).toNat, none⟩ (.int .u8 (rd l0 x4_1)))) ?hg ?ho ?hn ?hr ?_; (case ho => rfl); (case hg => rfl); (case hn => rfl); (case hr => first | (go_simp; done) | (go_simp; rfl)); intro w11 hw; have hg : wr.grownBy w11 (some go9) := (by rw [hw]; exact HP10.2); have hp_ : Kd.R (Kd.int .u8) 5 w11 w.heap.size (fun _ => True) (.slice (some ⟨go9, 0, none⟩) x3_1.length co9) y252 := (by rw [hw, Ny252.out]; exact HP10.1); clear HP10; replace HO_3 := Aside0.mk (hp_); replace HB := Aside0.mk ((by rw [hw]; exact below_set (HB.out) GB9.out : Below w.heap.size w w11)); clear hg hw hp_))
        go_roundg k1
        case measure => have := HK1.out; omega
        case rel => exact ⟨(y252), (wrap64 (x4_1 + 1)), oS, H', ⟨by have := HK1.out; omega⟩, ⟨oR HO_3⟩, ⟨oB⟩⟩
       ·cases H
      ·cases H
     ·obtain rfl := Option.some.inj H
      go_wp2
      go_ret
      exact ⟨_, oE, oR HO_3, oB⟩
  ·rw [if_neg c3] at H
   exact absurd H (by simp)
 ·rw [if_neg c2] at H
  exact absurd H (by simp)

/-! ### laws_toEnt: function 75 -/
def laws_toEnt.f (a0_0 : ByteArray) (a0_1 : Int) : Option (ByteArray × Int) := some (a0_0, a0_1)
set_option maxHeartbeats 8000000 in
set_option maxRecDepth 100000 in
theorem laws_toEnt.calls (a0_0 : ByteArray) (a0_1 : Int) (r1 : ByteArray) (r2 : Int) (w : World) (h : laws_toEnt.f a0_0 a0_1 = some (r1, r2)) :
  Calls Try.prog 75 #[.agg #[.string a0_0, .int .i64 a0_1]] w fun e w' => e = .returned (.agg #[.string r1, .int .i64 r2]) ∧ Below w.heap.size w w' := by
 have hu93 := Try.underlying93
 have hu82 := Try.underlying82
 have HB := Aside0.mk (Below.refl w.heap.size w)
 unfold laws_toEnt.f at h
 have H := h
 clear h
 simp only [Option.some.injEq, Prod.mk.injEq] at H
 obtain ⟨rfl, rfl⟩ := H
 go_enter Try.func75, Try.ntmps75
 go_wp2_with (first | ((with_reducible refine gate_dst (N := 1) rfl ?_); refine bx_ 1 #[.string a0_0, .int .i64 a0_1] 93 ?_; intro gb253 hg w2 hbox hb; have BK253 := Aside0.mk (hbox); have GW253 := gs_ hg; have GE253 := gs_ hg; replace HB := Aside0.mk (below_step oB hb); clear hb hbox hg) | ((with_reducible refine gate_dst (N := 2) rfl ?_); refine bx_ 2 #[.string (⟨#[]⟩ : ByteArray), .int .i64 0] 82 ?_; intro gb254 hg w3 hbox hb; have BK254 := Aside0.mk (hbox); have GW254 := gs_ hg; have GE254 := gs_ hg; have NB253_254 := nl_ hg BK253; have NB254_253 := nr_ hg BK253; replace BK253 := kb_ BK253 hb; replace HB := Aside0.mk (below_step oB hb); clear hb hbox hg) | ((with_reducible refine gate_dst (N := 3) rfl ?_); refine bx_ 3 #[.string (⟨#[]⟩ : ByteArray), .int .i64 0] 82 ?_; intro gb255 hg w4 hbox hb; have BK255 := Aside0.mk (hbox); have GW255 := gs_ hg; have GE255 := gs_ hg; have NB253_255 := nl_ hg BK253; have NB255_253 := nr_ hg BK253; have NB254_255 := nl_ hg BK254; have NB255_254 := nr_ hg BK254; replace BK253 := kb_ BK253 hb; replace BK254 := kb_ BK254 hb; replace HB := Aside0.mk (below_step oB hb); clear hb hbox hg; have hnb5 := NB253_254.out; have hnc5 := NB254_253.out; have hnb6 := NB253_255.out; have hnc6 := NB255_253.out; obtain ⟨⟨_, _⟩, _, _⟩ := z2 BK253; have hnb8 := NB255_254.out; have hnc8 := NB254_255.out; obtain ⟨⟨_, _⟩, _, _⟩ := z2 BK255; obtain ⟨⟨_, _⟩, _, _⟩ := z2 BK254))
 refine bodyPost_ret (results_cell_row rfl _ _ gb254 82 #[.string a0_0, .int .i64 a0_1] (0, 0) _ rfl (by (with_reducible repeat (first | refine blk_drewN ?_ _ | refine blk_drew ?_ | refine blk_alloc ?_ _)); refine blk_put (cs := #[.string a0_0, .int .i64 0]) ?_ 1 _ rfl; (with_reducible repeat (first | refine blk_drewN ?_ _ | refine blk_drew ?_ | refine blk_alloc ?_ _)); refine blk_put (cs := #[.string (⟨#[]⟩ : ByteArray), .int .i64 0]) ?_ 0 _ rfl; (with_reducible repeat (first | refine blk_drewN ?_ _ | refine blk_drew ?_ | refine blk_alloc ?_ _)); refine blk_far ?_ NB254_255.out _; (with_reducible repeat (first | refine blk_drewN ?_ _ | refine blk_drew ?_ | refine blk_alloc ?_ _)); refine blk_far ?_ NB254_255.out _; (with_reducible repeat (first | refine blk_drewN ?_ _ | refine blk_drew ?_ | refine blk_alloc ?_ _)); exact BK254.out) Try.underlying82 rfl (by kernel_rfl)) rfl ?_
 exact ⟨oE, oB⟩

/-! ### laws_toEntS: function 40 -/
def laws_toEntS.l0 : Nat → List (S93) → List (S82) → Int → Option ((List (S82)))
 | 0, _, _, _ => none
 | k + 1, x0, x3, x4 => if x4 < (x0.length : Int) then (if 0 ≤ x4 then ((laws_toEnt.f ((rd_T93 x0 x4).f0) ((rd_T93 x0 x4).f1)).bind fun bt260 => (if x4 < (x3.length : Int) then (laws_toEntS.l0 k x0 (x3.set (x4 : Int).toNat (⟨bt260.1, bt260.2⟩ : S82)) (wrap64 (x4 + 1))) else (none))) else (none)) else (some x3)
def laws_toEntS.f (k : Nat) (l0 : List (S93)) : Option ((List (S82))) := if 0 ≤ (l0.length : Int) then (if ((l0.length : Int) : Int).toNat ≤ 11728124029610 then (laws_toEntS.l0 k l0 (List.replicate ((l0.length : Int) : Int).toNat z82) 0) else (none)) else (none)
set_option maxHeartbeats 8000000 in
set_option maxRecDepth 100000 in
theorem laws_toEntS.calls (k : Nat) (A0 : Option Addr) (c0 : Nat) (l0 : List (S93)) (r : List (S82)) (w : World) (hr0 : Kd.C k93 w A0 l0.length l0) (hc0 : l0.length ≤ c0) (h : laws_toEntS.f k l0 = some r) :
  Calls Try.prog 40 #[.slice A0 l0.length c0] w fun e w' => ∃ v0_ : Value, e = .returned (v0_) ∧ Kd.R k82 82 w' w.heap.size (fun _ => True) v0_ r ∧ Below w.heap.size w w' := by
 have hu93 := Try.underlying93
 have hu82 := Try.underlying82
 have HR0 := Aside0.mk hr0
 have HC0 := Aside0.mk hc0
 clear hr0 hc0
 have HB := Aside0.mk (Below.refl w.heap.size w)
 unfold laws_toEntS.f at h
 have H := h
 clear h
 by_cases c2 : 0 ≤ (l0.length : Int)
 ·rw [if_pos c2] at H
  have c2b0 := eq_true c2
  have c2b1 : decide (0 ≤ (l0.length : Int)) = true := decide_eq_true c2
  clear c2
  by_cases c3 : ((l0.length : Int) : Int).toNat ≤ 11728124029610
  ·rw [if_pos c3] at H
   have c3b0 := eq_true c3
   have c3b1 : decide (((l0.length : Int) : Int).toNat ≤ 11728124029610) = true := decide_eq_true c3
   clear c3
   obtain ⟨y256, hy256⟩ : ∃ y_ : List (S82), y_ = (List.replicate ((l0.length : Int) : Int).toNat z82) := ⟨_, rfl⟩
   replace H : (laws_toEntS.l0 k l0 y256 0) = some r := by first | (rw [hy256]; with_reducible exact H) | (have H2_ := (Option.bind_some _ _).symm.trans H; rw [hy256]; with_reducible exact H2_) | (have H2_ := (Option.bind_some _ _).symm.trans H; with_reducible exact H2_) | with_reducible exact H | (rw [hy256]; exact H) | exact H
   have Ny256 := Aside0.mk hy256
   clear hy256
   have H' := Aside0.mk H
   clear H
   go_enter Try.func40, Try.ntmps40
   go_wp2_with (first | ((with_reducible refine gate_dst (N := 7) rfl ?_); refine Kd.R_make k82 _ 82 rfl (N := 7) rfl 37 _ _ rfl (l0.length : Int) rfl rfl Try.underlying37 (.agg #[(.string ⟨#[]⟩), (.int .i64 0)]) 24 info82 rfl (by decide) (by omega) z82 (ok := fun _ => True) (okp := fun _ => True) (k82_mkM _ _ _ z82 ) (fun _ hk => hk) trivial oa (Nat.le_trans (Nat.mul_le_mul_right _ (oa : (l0.length : Int).toNat ≤ 11728124029610)) (by omega)) (Below.refl _ _) (Nat.le_refl _) ?_; intro v257 w4 ho5 hb hg_ hnew_; clear hg_ hnew_; (first | rw [← Ny256.out] at ho5 | (simp only [Int.reduceToNat] at ho5; rw [← Ny256.out] at ho5)); have HO258 := Aside0.mk (Kd.R_lower ho5 (below_size oB)); replace HB := Aside0.mk (below_step oB hb); clear hb ho5))
   go_loopg [4] k (fun kq v4 w' => ∃ (x3_1 : List (S82)) (x4_1 : Int), v4 = .int .i64 x4_1 ∧ Aside0 (laws_toEntS.l0 kq l0 x3_1 x4_1 = some r) ∧ Aside0 (kq ≤ k) ∧ Aside0 (Kd.R k82 82 w' w.heap.size (fun _ => True) v257 x3_1) ∧ Aside0 (Below w.heap.size w w'))
   case atStart => exact ⟨(y256), (0), oS, H', ⟨Nat.le_refl _⟩, ⟨oR HO258⟩, ⟨oB⟩⟩
   case round =>
    clear H'
    try clear c2
    try clear c2b0
    try clear c2b1
    try clear c3
    obtain ⟨x3_1, x4_1, rfl, HA, HK1, HO_3, HB⟩ := hrel
    cases gk with
    | zero => exact absurd HA.out (by simp [laws_toEntS.l0])
    | succ k1 =>
     have H := HA.out
     clear HA
     simp only [laws_toEntS.l0] at H
     replace H := itD H
     rcases H with ⟨c6b0, H⟩ | ⟨c6b0, H⟩
     ·replace H := itD H
      rcases H with ⟨c7b0, H⟩ | ⟨c7b0, H⟩
      ·replace H := bA H
       obtain ⟨⟨t260, t261⟩, A8, H⟩ := H
       try dsimp only at H
       replace H := itD H
       rcases H with ⟨c9b0, H⟩ | ⟨c9b0, H⟩
       ·obtain ⟨y262, hy262⟩ : ∃ y_ : List (S82), y_ = (x3_1.set (x4_1 : Int).toNat (⟨t260, t261⟩ : S82)) := ⟨_, rfl⟩
        replace H : (laws_toEntS.l0 k1 l0 y262 (wrap64 (x4_1 + 1))) = some r := by first | (rw [hy262]; with_reducible exact H) | (have H2_ := (Option.bind_some _ _).symm.trans H; rw [hy262]; with_reducible exact H2_) | (have H2_ := (Option.bind_some _ _).symm.trans H; with_reducible exact H2_) | with_reducible exact H | (rw [hy262]; exact H) | exact H
        have Ny262 := Aside0.mk hy262
        clear hy262
        have H' := Aside0.mk H
        clear H
        have p259 : (0 ≤ (x4_1 : Int)) = True := oT
        have q259 : (x4_1 < (l0.length : Int)) = True := oT
        obtain ⟨ad259, e259, hx259_0, hx259_1⟩ := at_T93 HR0.out x4_1 oa oa
        cases e259
        replace hx259_0 := cB HB hx259_0
        replace hx259_1 := cB HB hx259_1
        go_wp2_with (first | ((with_reducible refine gate_callee (f := 75) rfl ?_); refine gl_ 20 Try.func75 (laws_toEnt.calls ((rd_T93 l0 x4_1).f0) ((rd_T93 l0 x4_1).f1) t260 t261 _ A8.out) ?_; rintro e w11 ⟨rfl, hb⟩; refine ⟨_, rfl, ?_⟩; replace HO_3 := kr_ HO_3 hb; replace HB := Aside0.mk (below_step oB hb); (try clear hk); have p10 : 0 ≤ (x4_1 : Int) := oa; have q10 : (x4_1 : Int) < ((x3_1.length : Int) : Int) := oa; obtain ⟨go10, co10, eo10, gb10, gl10, cl10, HG10⟩ := Kd.R_form HO_3.out (by omega); (first | cases eo10 | (injection eo10 with ea_ en_ ec_; (first | subst ea_ | (injection ea_ with ea_; subst ea_)); subst ec_; clear en_)); have GB10 := Aside0.mk gb10; have GG10 := Aside0.mk HG10; clear gb10 gl10 HG10; obtain ⟨ce10, hcl10, hM10, hcc10, hfr10⟩ := Kd.R_elem HO_3.out z82 (x4_1 : Int) p10 q10; obtain rfl := k82_openM hM10; have hx10_0 : w11.cell? ⟨go10, (x4_1 : Int).toNat * 2, none⟩ = some (.string ((rd_T82 x3_1 x4_1).f0)) := hcc10 0 _ rfl; have hx10_1 : w11.cell? ⟨go10, (x4_1 : Int).toNat * 2 + 1, none⟩ = some (.int .i64 ((rd_T82 x3_1 x4_1).f1)) := hcc10 1 _ rfl; have hf10_0 : w11.frozen? ⟨go10, (x4_1 : Int).toNat * 2, none⟩ = false := hfr10 0; have hf10_1 : w11.frozen? ⟨go10, (x4_1 : Int).toNat * 2 + 1, none⟩ = false := hfr10 1; clear hcl10 hcc10 hfr10 hM10; replace p10 := eq_true p10; replace q10 := eq_true q10; have HX12 := Aside0.mk (show Kd.R k82 82 w11 w.heap.size (fun _ => True) (.slice (some ⟨go10, 0, none⟩) x3_1.length co10) x3_1 from (oR HO_3)); obtain ⟨ce12, hcl12, hM12, hcc12, hfr12⟩ := Kd.R_elem HX12.out z82 (x4_1 : Int) oa (by have h_ : (x4_1 : Int) < ((x3_1.length : Int) : Int) := oa; first | exact h_ | (have e_ := (Kd.R_reads' HO_3.out).1; omega) | simpa using h_); obtain rfl := k82_openM hM12; have HP12 := Kd.R_seg HX12.out (x4_1 : Int) oa (by have h_ : (x4_1 : Int) < ((x3_1.length : Int) : Int) := oa; first | exact h_ | (have e_ := (Kd.R_reads' HO_3.out).1; omega) | simpa using h_) (seg := [.string t260, .int .i64 t261]) (j := 0) hcl12 hcc12 (show 2 ≤ 2 from by decide) (x' := (⟨t260, t261⟩ : S82)) (k82_mkM _ _ _ (⟨t260, t261⟩ : S82) ) (fun _ hk => hk); have hx12_0 := hcc12 0 _ rfl; (try simp only [show (k82).sz = 2 from rfl, Nat.mul_one, Nat.add_zero] at hx12_0); have hf12_0 := hfr12 0; (try simp only [show (k82).sz = 2 from rfl, Nat.mul_one, Nat.add_zero] at hf12_0); have hx12_1 := hcc12 1 _ rfl; (try simp only [show (k82).sz = 2 from rfl, Nat.mul_one, Nat.add_zero] at hx12_1); have hf12_1 := hfr12 1; (try simp only [show (k82).sz = 2 from rfl, Nat.mul_one, Nat.add_zero] at hf12_1); clear hcl12 hcc12 hfr12 hM12) | ((with_reducible refine gate_store (t := 82) (p := 21) rfl ?_); refine store_event (t := 82) (p := 21) (v := ?vo_w13) (w1 := ((w11.setCell ⟨go10, (x4_1 : Int).toNat * 2, none⟩ (.string t260)).setCell ⟨go10, (x4_1 : Int).toNat * 2 + 1, none⟩ (.int .i64 t261))) ?hg ?ho ?hn ?hr ?_; (case ho => rfl); (case hg => rfl); (case hn => rfl); (case hr => first | (go_simp; done) | (go_simp; rfl)); intro w13 hw; have hg : w11.grownBy w13 (some go10) := (by rw [hw]; exact HP12.2); have hp_ : Kd.R k82 82 w13 w.heap.size (fun _ => True) (.slice (some ⟨go10, 0, none⟩) x3_1.length co10) y262 := (by rw [hw, Ny262.out]; exact HP12.1); clear HP12; replace HO_3 := Aside0.mk (hp_); replace HB := Aside0.mk ((by rw [hw]; exact below_set (below_set (HB.out) GB10.out) GB10.out : Below w.heap.size w w13)); clear hg hw hp_))
        go_roundg k1
        case measure => have := HK1.out; omega
        case rel => exact ⟨(y262), (wrap64 (x4_1 + 1)), oS, H', ⟨by have := HK1.out; omega⟩, ⟨oR HO_3⟩, ⟨oB⟩⟩
       ·cases H
      ·cases H
     ·obtain rfl := Option.some.inj H
      go_wp2
      go_ret
      exact ⟨_, oE, oR HO_3, oB⟩
  ·rw [if_neg c3] at H
   exact absurd H (by simp)
 ·rw [if_neg c2] at H
  exact absurd H (by simp)

end Go.Proofs.Ytmndnegpclaidaa.P
