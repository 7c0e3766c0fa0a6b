-- By this session's own program (wip/myprint.py) out of the translation; Lean checks it.
import Derived.Test.YtkcfmbggdkkfeaaGreatDoorPx0
import Derived.Test.YtkcfmbggdkkfeaaGreatDoorPx3
import Derived.Test.YtkcfmbggdkkfeaaGreatDoorPx4
namespace Go.Proofs.YtkcfmbggdkkfeaaGreatDoor.P
open Go.RowKit Go.Proofs.YtkcfmbggdkkfeaaGreatDoorW.PrintWords Go.Proofs.YtkcfmbggdkkfeaaGreatDoorW.PrintLast Go.Proofs.YtkcfmbggdkkfeaaGreatDoorW.PrintMore
attribute [local go_sem] max2_int min2_int max_two min_two max_three min_three max_four min_four   -- for this text's walks alone
set_option linter.unusedVariables false
set_option linter.unusedSimpArgs false

/-! ### impl_copyTab: function 45 -/
def impl_copyTab.l0 : Nat → List (S51) → Int → Int → List (S51) → Int → Option ((List (S51)) × Int)
 | 0, _, _, _, _, _ => none
 | k + 1, x10, x11, x12, x143000, x143001 => if x12 < x11 then (if 0 ≤ x12 then (if x12 < (x10.length : Int) then ((impl_copyInode.f ((rd_T51 x10 x12).f0) ((rd_T51 x10 x12).f1) ((rd_T51 x10 x12).f2) ((rd_T51 x10 x12).f3) ((rd_T51 x10 x12).f4) ((rd_T51 x10 x12).f5)).bind fun bt145 => (if x143000.length < 1466015503701 then (impl_copyTab.l0 k x10 x11 (wrap64 (x12 + 1)) (x143000 ++ [(⟨bt145.1, bt145.2.1, bt145.2.2.1, bt145.2.2.2.1, bt145.2.2.2.2.1, bt145.2.2.2.2.2⟩ : S51)]) x143001) else (none))) else (none)) else (none)) else (some (x143000, x143001))
def impl_copyTab.f (k : Nat) (l0_0 : List (S51)) (a0_1 : Int) : Option ((List (S51)) × Int) := impl_copyTab.l0 k l0_0 (l0_0.length : Int) 0 ([] : List (S51)) a0_1
def impl_copyTab.T5 : Bool × List (List Nat × List Nat) := (true, [([], []), ([0], [0]), ([], []), ([2], [2]), ([3], [3]), ([1, 4, 3], [1, 4]), ([0, 1, 2, 3, 4, 5], []), ([6, 5, 5, 0, 1, 2, 3, 4, 5], [5, 6])])
def impl_copyTab.B5 : List Nat := [0, 1, 0, 4, 12, 31, 63, 127]
theorem impl_copyTab.tab5 : rtab .any (opsOf Tryz.f45 5) = impl_copyTab.T5 := by kernel_rfl
theorem impl_copyTab.bits5 : waitsOk impl_copyTab.T5.2 impl_copyTab.B5 = true := by kernel_rfl
set_option maxHeartbeats 8000000 in
set_option maxRecDepth 100000 in
theorem impl_copyTab.calls (k : Nat) (A0_0 : Option Addr) (c0_0 : Nat) (l0_0 : List (S51)) (a0_1 : Int) (r1 : List (S51)) (r2 : Int) (w : World) (hr0_0 : Kd.C k51 w A0_0 l0_0.length l0_0) (hc0_0 : l0_0.length ≤ c0_0) (h : impl_copyTab.f k l0_0 a0_1 = some (r1, r2)) :
  Calls Tryz.prog 45 #[.agg #[.slice A0_0 l0_0.length c0_0, .int .i64 a0_1]] w fun e w' => ∃ v0_ : Value, e = .returned (.agg #[v0_, .int .i64 r2]) ∧ Kd.S k51 51 w' w.heap.size (fun _ => True) v0_ r1 ∧ Below w.heap.size w w' := by
 have hu26 := Tryz.underlying26
 have hu51 := Tryz.underlying51
 have HR0_0 := Aside0.mk hr0_0
 have HC0_0 := Aside0.mk hc0_0
 clear hr0_0 hc0_0
 have HB := Aside0.mk (Below.refl w.heap.size w)
 unfold impl_copyTab.f at h
 have H := h
 clear h
 have H' := Aside0.mk H
 clear H
 go_enter Tryz.func45, Tryz.ntmps45
 go_wp2_with (first | ((with_reducible refine gate_dst (N := 1) rfl ?_); refine bx_ 1 #[.slice A0_0 l0_0.length c0_0, .int .i64 a0_1] 26 ?_; intro gb140 hg w2 hbox hb; have BK140 := Aside0.mk (hbox); have GW140 := gs_ hg; replace HB := Aside0.mk (below_step oB hb); clear hb hbox hg) | ((with_reducible refine gate_dst (N := 2) rfl ?_); refine bx_ 2 #[.slice none 0 0, .int .i64 0] 26 ?_; intro gb141 hg w3 hbox hb; have BK141 := Aside0.mk (hbox); have GW141 := gs_ hg; have NB140_141 := nl_ hg BK140; have NB141_140 := nr_ hg BK140; replace BK140 := kb_ BK140 hb; replace HB := Aside0.mk (below_step oB hb); clear hb hbox hg; have hnb4 := NB140_141.out; have hnc4 := NB141_140.out; obtain ⟨⟨_, _⟩, _, _⟩ := z2 BK140) | ((with_reducible refine gate_dst (N := 3) rfl ?_); refine bx_ 3 #[.slice none 0 0, .int .i64 0] 26 ?_; intro gb142 hg w6 hbox hb; have BK142 := Aside0.mk (hbox); have GW142 := gs_ hg; have NB140_142 := nl_ hg BK140; have NB142_140 := nr_ hg BK140; have NB141_142 := nl_ hg BK141; have NB142_141 := nr_ hg BK141; replace BK140 := kb_ BK140 hb; replace BK141 := kb_ BK141 hb; replace HB := Aside0.mk (below_step oB hb); clear hb hbox hg; have hnb7 := NB142_140.out; have hnc7 := NB140_142.out; have hnb8 := NB142_141.out; have hnc8 := NB141_142.out; obtain ⟨⟨_, _⟩, _, _⟩ := z2 BK142; obtain ⟨⟨_, _⟩, _, _⟩ := z2 BK140))
 go_loopg [12] k (fun kq v12 w' => ∃ (x12_1 : Int) (x143000_1 : List (S51)) (u143000 : Value), v12 = .int .i64 x12_1 ∧ Aside0 (impl_copyTab.l0 kq l0_0 (l0_0.length : Int) x12_1 x143000_1 a0_1 = some (r1, r2)) ∧ Aside0 (kq ≤ k) ∧ Aside0 (Kd.S k51 51 w' w.heap.size (fun _ => True) u143000 x143000_1) ∧ Aside0 (w'.heap[gb140]? = some (.cells #[(.slice A0_0 l0_0.length c0_0), .int .i64 a0_1] 26 (0, 0))) ∧ Aside0 (w'.heap[gb141]? = some (.cells #[(.slice none 0 0), .int .i64 0] 26 (0, 0))) ∧ Aside0 (w'.heap[gb142]? = some (.cells #[u143000, .int .i64 a0_1] 26 (0, 0))) ∧ Aside0 (Below w.heap.size w w'))
 case atStart => exact ⟨(0), (([] : List (S51))), (.slice none 0 0), oS, H', ⟨Nat.le_refl _⟩, ⟨by first | exact Kd.S_nil _ _ _ _ _ | exact Kd.N_nil _ _ _ _ _ | exact Kd.V_nil _ _ _ _ _ | exact Kd.Q_nil _ _ _ _ _ | exact Kd.R_nil _ _ _ _ _⟩, ⟨oF BK140⟩, ⟨oF BK141⟩, ⟨oP BK142⟩, ⟨oB⟩⟩
 case round =>
  clear H'
  obtain ⟨x12_1, x143000_1, u143000, rfl, HA, HK1, HO_143000, BK140, BK141, BK142, HB⟩ := hrel
  cases gk with
  | zero => exact absurd HA.out (by simp [impl_copyTab.l0])
  | succ k1 =>
   have H := HA.out
   clear HA
   simp only [impl_copyTab.l0] at H
   replace H := itD H
   rcases H with ⟨c11b0, H⟩ | ⟨c11b0, H⟩
   ·replace H := itD H
    rcases H with ⟨c12b0, H⟩ | ⟨c12b0, H⟩
    ·replace H := itD H
     rcases H with ⟨c13b0, H⟩ | ⟨c13b0, H⟩
     ·replace H := bA H
      obtain ⟨⟨t145, t146, t147, t148, t151, t154⟩, A14, H⟩ := H
      try dsimp only at H
      by_cases c15 : x143000_1.length < 1466015503701
      ·rw [if_pos c15] at H
       have LMc15 := Aside0.mk c15
       clear c15
       obtain ⟨y157, hy157⟩ : ∃ y_ : List (S51), y_ = (x143000_1 ++ [(⟨t145, t146, t147, t148, t151, t154⟩ : S51)]) := ⟨_, rfl⟩
       replace H : (impl_copyTab.l0 k1 l0_0 (l0_0.length : Int) (wrap64 (x12_1 + 1)) y157 a0_1) = some (r1, r2) := by first | (rw [hy157]; with_reducible exact H) | (have H2_ := (Option.bind_some _ _).symm.trans H; rw [hy157]; with_reducible exact H2_) | (have H2_ := (Option.bind_some _ _).symm.trans H; with_reducible exact H2_) | with_reducible exact H | (rw [hy157]; exact H) | exact H
       have Ny157 := Aside0.mk hy157
       clear hy157
       have H' := Aside0.mk H
       clear H
       have p143 : (0 ≤ (x12_1 : Int)) = True := oT
       have q143 : (x12_1 < (l0_0.length : Int)) = True := oT
       obtain ⟨ad143, A143_3, c143_3, A143_4, c143_4, A143_5, c143_5, e143, hx143_0, hx143_1, hx143_2, hx143_3, hx143_4, hx143_5, hl143_3, hi143_3, hl143_4, hi143_4, hl143_5, hi143_5⟩ := at_T51 HR0_0.out x12_1 oa oa
       cases e143
       replace hx143_0 := cB HB hx143_0
       replace hx143_1 := cB HB hx143_1
       replace hx143_2 := cB HB hx143_2
       replace hx143_3 := cB HB hx143_3
       replace hx143_4 := cB HB hx143_4
       replace hx143_5 := cB HB hx143_5
       have HR143_3 := Aside0.mk hi143_3
       have HC143_3 := Aside0.mk hl143_3
       clear hi143_3 hl143_3
       have HR143_4 := Aside0.mk hi143_4
       have HC143_4 := Aside0.mk hl143_4
       clear hi143_4 hl143_4
       have HR143_5 := Aside0.mk hi143_5
       have HC143_5 := Aside0.mk hl143_5
       clear hi143_5 hl143_5
       try go_wp2_with (first | ((with_reducible refine gate_dst (N := 5) rfl ?_); refine bx_ 5 #[.int .i64 0, .int .i64 0, .int .i64 0, .slice none 0 0, .slice none 0 0, .slice none 0 0] 51 ?_; intro gb144 hg w16 hbox hb; have BK144 := Aside0.mk (hbox); have GW144 := gs_ hg; have NB140_144 := nl_ hg BK140; have NB144_140 := nr_ hg BK140; have NB141_144 := nl_ hg BK141; have NB144_141 := nr_ hg BK141; have NB142_144 := nl_ hg BK142; have NB144_142 := nr_ hg BK142; replace HO_143000 := Aside0.mk (Kd.S_below (Kd.S_elderB (nS0 HO_143000) gb144 (Nat.le_of_eq hg.symm)) hb); replace BK140 := kb_ BK140 hb; replace BK141 := kb_ BK141 hb; replace BK142 := kb_ BK142 hb; replace HB := Aside0.mk (below_step oB hb); clear hb hbox hg; have hnb17 := NB144_140.out; have hnc17 := NB140_144.out; have hnb18 := NB144_141.out; have hnc18 := NB141_144.out; have hnb19 := NB144_142.out; have hnc19 := NB142_144.out; obtain ⟨⟨_, _, _, _, _, _⟩, _, _, _, _, _, _⟩ := z6 BK144))
       have n0_ : Aside0 (Kd.S k51 51 ((((((w16.setCell ⟨gb144, 0, none⟩ (.int .i64 ((rd_T51 l0_0 x12_1).f0))).setCell ⟨gb144, 1, none⟩ (.int .i64 ((rd_T51 l0_0 x12_1).f1))).setCell ⟨gb144, 2, none⟩ (.int .i64 ((rd_T51 l0_0 x12_1).f2))).setCell ⟨gb144, 3, none⟩ (.slice A143_3 ((rd_T51 l0_0 x12_1).f3).length c143_3)).setCell ⟨gb144, 4, none⟩ (.slice A143_4 ((rd_T51 l0_0 x12_1).f4).length c143_4)).setCell ⟨gb144, 5, none⟩ (.slice A143_5 ((rd_T51 l0_0 x12_1).f5).length c143_5)) w.heap.size (fun k_ => k_ ≠ gb144) u143000 x143000_1) := ⟨by (with_reducible repeat (first | apply Kd.S_alloc | apply Kd.S_drewN | apply Kd.S_drew)); exact Kd.S_mono (Kd.S_far (p := ⟨gb144, 5, none⟩) (Kd.S_far (p := ⟨gb144, 4, none⟩) (Kd.S_far (p := ⟨gb144, 3, none⟩) (Kd.S_far (p := ⟨gb144, 2, none⟩) (Kd.S_far (p := ⟨gb144, 1, none⟩) (Kd.S_far (p := ⟨gb144, 0, none⟩) (Kd.S_mono HO_143000.out (fun k_ hk => (⟨hk, hk.2⟩ : _ ∧ k_ ≠ gb144))) (fun _ hk => hk.2) (.int .i64 ((rd_T51 l0_0 x12_1).f0))) (fun _ hk => hk.2) (.int .i64 ((rd_T51 l0_0 x12_1).f1))) (fun _ hk => hk.2) (.int .i64 ((rd_T51 l0_0 x12_1).f2))) (fun _ hk => hk.2) (.slice A143_3 ((rd_T51 l0_0 x12_1).f3).length c143_3)) (fun _ hk => hk.2) (.slice A143_4 ((rd_T51 l0_0 x12_1).f4).length c143_4)) (fun _ hk => hk.2) (.slice A143_5 ((rd_T51 l0_0 x12_1).f5).length c143_5)) (fun _ hk => hk.1.2)⟩
       have n1_ : Aside0 (((((((w16.setCell ⟨gb144, 0, none⟩ (.int .i64 ((rd_T51 l0_0 x12_1).f0))).setCell ⟨gb144, 1, none⟩ (.int .i64 ((rd_T51 l0_0 x12_1).f1))).setCell ⟨gb144, 2, none⟩ (.int .i64 ((rd_T51 l0_0 x12_1).f2))).setCell ⟨gb144, 3, none⟩ (.slice A143_3 ((rd_T51 l0_0 x12_1).f3).length c143_3)).setCell ⟨gb144, 4, none⟩ (.slice A143_4 ((rd_T51 l0_0 x12_1).f4).length c143_4)).setCell ⟨gb144, 5, none⟩ (.slice A143_5 ((rd_T51 l0_0 x12_1).f5).length c143_5)).heap[gb140]? = some (.cells #[.slice (some ad143) l0_0.length c0_0, .int .i64 a0_1] 26 (0, 0))) := ⟨oF BK140⟩
       have n2_ : Aside0 (((((((w16.setCell ⟨gb144, 0, none⟩ (.int .i64 ((rd_T51 l0_0 x12_1).f0))).setCell ⟨gb144, 1, none⟩ (.int .i64 ((rd_T51 l0_0 x12_1).f1))).setCell ⟨gb144, 2, none⟩ (.int .i64 ((rd_T51 l0_0 x12_1).f2))).setCell ⟨gb144, 3, none⟩ (.slice A143_3 ((rd_T51 l0_0 x12_1).f3).length c143_3)).setCell ⟨gb144, 4, none⟩ (.slice A143_4 ((rd_T51 l0_0 x12_1).f4).length c143_4)).setCell ⟨gb144, 5, none⟩ (.slice A143_5 ((rd_T51 l0_0 x12_1).f5).length c143_5)).heap[gb141]? = some (.cells #[.slice none 0 0, .int .i64 0] 26 (0, 0))) := ⟨oF BK141⟩
       have n3_ : Aside0 (((((((w16.setCell ⟨gb144, 0, none⟩ (.int .i64 ((rd_T51 l0_0 x12_1).f0))).setCell ⟨gb144, 1, none⟩ (.int .i64 ((rd_T51 l0_0 x12_1).f1))).setCell ⟨gb144, 2, none⟩ (.int .i64 ((rd_T51 l0_0 x12_1).f2))).setCell ⟨gb144, 3, none⟩ (.slice A143_3 ((rd_T51 l0_0 x12_1).f3).length c143_3)).setCell ⟨gb144, 4, none⟩ (.slice A143_4 ((rd_T51 l0_0 x12_1).f4).length c143_4)).setCell ⟨gb144, 5, none⟩ (.slice A143_5 ((rd_T51 l0_0 x12_1).f5).length c143_5)).heap[gb142]? = some (.cells #[u143000, .int .i64 a0_1] 26 (0, 0))) := ⟨oF BK142⟩
       have n4_ : Aside0 (((((((w16.setCell ⟨gb144, 0, none⟩ (.int .i64 ((rd_T51 l0_0 x12_1).f0))).setCell ⟨gb144, 1, none⟩ (.int .i64 ((rd_T51 l0_0 x12_1).f1))).setCell ⟨gb144, 2, none⟩ (.int .i64 ((rd_T51 l0_0 x12_1).f2))).setCell ⟨gb144, 3, none⟩ (.slice A143_3 ((rd_T51 l0_0 x12_1).f3).length c143_3)).setCell ⟨gb144, 4, none⟩ (.slice A143_4 ((rd_T51 l0_0 x12_1).f4).length c143_4)).setCell ⟨gb144, 5, none⟩ (.slice A143_5 ((rd_T51 l0_0 x12_1).f5).length c143_5)).heap[gb144]? = some (.cells #[.int .i64 ((rd_T51 l0_0 x12_1).f0), .int .i64 ((rd_T51 l0_0 x12_1).f1), .int .i64 ((rd_T51 l0_0 x12_1).f2), .slice A143_3 ((rd_T51 l0_0 x12_1).f3).length c143_3, .slice A143_4 ((rd_T51 l0_0 x12_1).f4).length c143_4, .slice A143_5 ((rd_T51 l0_0 x12_1).f5).length c143_5] 51 (0, 0))) := ⟨oP BK144⟩
       have n5_ : Aside0 (Below w.heap.size w ((((((w16.setCell ⟨gb144, 0, none⟩ (.int .i64 ((rd_T51 l0_0 x12_1).f0))).setCell ⟨gb144, 1, none⟩ (.int .i64 ((rd_T51 l0_0 x12_1).f1))).setCell ⟨gb144, 2, none⟩ (.int .i64 ((rd_T51 l0_0 x12_1).f2))).setCell ⟨gb144, 3, none⟩ (.slice A143_3 ((rd_T51 l0_0 x12_1).f3).length c143_3)).setCell ⟨gb144, 4, none⟩ (.slice A143_4 ((rd_T51 l0_0 x12_1).f4).length c143_4)).setCell ⟨gb144, 5, none⟩ (.slice A143_5 ((rd_T51 l0_0 x12_1).f5).length c143_5))) := ⟨oB⟩
       (try clear HO_143000)
       (try clear BK140)
       (try clear BK141)
       (try clear BK142)
       (try clear BK144)
       (try clear HB)
       generalize ((((((w16.setCell ⟨gb144, 0, none⟩ (.int .i64 ((rd_T51 l0_0 x12_1).f0))).setCell ⟨gb144, 1, none⟩ (.int .i64 ((rd_T51 l0_0 x12_1).f1))).setCell ⟨gb144, 2, none⟩ (.int .i64 ((rd_T51 l0_0 x12_1).f2))).setCell ⟨gb144, 3, none⟩ (.slice A143_3 ((rd_T51 l0_0 x12_1).f3).length c143_3)).setCell ⟨gb144, 4, none⟩ (.slice A143_4 ((rd_T51 l0_0 x12_1).f4).length c143_4)).setCell ⟨gb144, 5, none⟩ (.slice A143_5 ((rd_T51 l0_0 x12_1).f5).length c143_5)) = w21 at n0_ n1_ n2_ n3_ n4_ n5_ ⊢
       have HO_143000 := n0_
       have BK140 := n1_
       have BK141 := n2_
       have BK142 := n3_
       have BK144 := n4_
       have HB := n5_
       clear n0_ n1_ n2_ n3_ n4_ n5_
       replace HO_143000 := Aside0.mk (Kd.S_drew HO_143000.out)
       replace BK140 := Aside0.mk (blk_drew BK140.out)
       replace BK141 := Aside0.mk (blk_drew BK141.out)
       replace BK142 := Aside0.mk (blk_drew BK142.out)
       replace BK144 := Aside0.mk (blk_drew BK144.out)
       replace HB := Aside0.mk (below_drew1 HB.out)
       refine start_ (n := 8) (S := fun w' => w'.cell? ⟨gb142, 0, none⟩ = some (u143000) ∧ w'.cell? ⟨gb142, 1, none⟩ = some (.int .i64 a0_1) ∧ w'.cell? ⟨gb144, 0, none⟩ = some (.int .i64 ((rd_T51 l0_0 x12_1).f0)) ∧ w'.cell? ⟨gb144, 1, none⟩ = some (.int .i64 ((rd_T51 l0_0 x12_1).f1)) ∧ w'.cell? ⟨gb144, 2, none⟩ = some (.int .i64 ((rd_T51 l0_0 x12_1).f2)) ∧ w'.cell? ⟨gb144, 3, none⟩ = some (.slice A143_3 ((rd_T51 l0_0 x12_1).f3).length c143_3) ∧ w'.cell? ⟨gb144, 4, none⟩ = some (.slice A143_4 ((rd_T51 l0_0 x12_1).f4).length c143_4) ∧ w'.cell? ⟨gb144, 5, none⟩ = some (.slice A143_5 ((rd_T51 l0_0 x12_1).f5).length c143_5)) (ds := [7]) (lb 8 0) (by kernel_rfl) rfl rfl oH (fun hHeld => ?_); refine with_tabW impl_copyTab.tab5 impl_copyTab.bits5 (fun HT_ HW_ => ?_)
       generalize w21.drew = w22 at HO_143000 BK140 BK141 BK142 BK144 HB hHeld ⊢
       refine pu_ 0 16 HT_ ?_
       refine ta_ 1 17 HT_ HW_ hHeld ?_
       refine ta_ 2 18 HT_ HW_ hHeld ?_
       refine on_ 3 19 HT_ (fun K hK => ?_)
       refine gr_ 19 Tryz.func71 (impl_copyInode.calls ((rd_T51 l0_0 x12_1).f0) ((rd_T51 l0_0 x12_1).f1) ((rd_T51 l0_0 x12_1).f2) _ _ ((rd_T51 l0_0 x12_1).f3) _ _ ((rd_T51 l0_0 x12_1).f4) _ _ ((rd_T51 l0_0 x12_1).f5) t145 t146 t147 t148 t151 t154 _ (kC HR143_3) HC143_3.out (kC HR143_4) HC143_4.out (kC HR143_5) HC143_5.out A14.out) ?_
       rintro e w23 ⟨v149, v152, v155, rfl, ho0, ho1, ho2, hb⟩
       refine ⟨_, rfl, ?_⟩
       have HO150 := Aside0.mk (Kd.R_lower ho0 (below_size oB))
       have HO153 := Aside0.mk (Kd.R_lower ho1 (below_size oB))
       have HO156 := Aside0.mk (Kd.R_lower ho2 (below_size oB))
       replace HO_143000 := tdS3 (olS0 HO_143000 hb) (Kd.R_base ho0) (Kd.R_base ho1) (Kd.R_base ho2)
       replace BK140 := kb_ BK140 hb
       replace BK141 := kb_ BK141 hb
       replace BK142 := kb_ BK142 hb
       replace BK144 := kb_ BK144 hb
       replace HB := Aside0.mk (below_step oB hb)
       (try clear ho1)
       (try clear ho2)
       obtain ⟨Ao25, co25, eo25⟩ := Kd.R_slice HO150.out
       (first | subst eo25 | (injection eo25 with f1_ f2_ f3_; have f4_ := f1_.symm; have f5_ := f3_.symm; clear f1_ f2_ f3_; subst f4_; subst f5_))
       obtain ⟨Ao26, co26, eo26⟩ := Kd.R_slice HO153.out
       (first | subst eo26 | (injection eo26 with f1_ f2_ f3_; have f4_ := f1_.symm; have f5_ := f3_.symm; clear f1_ f2_ f3_; subst f4_; subst f5_))
       obtain ⟨Ao27, co27, eo27⟩ := Kd.R_slice HO156.out
       (first | subst eo27 | (injection eo27 with f1_ f2_ f3_; have f4_ := f1_.symm; have f5_ := f3_.symm; clear f1_ f2_ f3_; subst f4_; subst f5_))
       refine hk_ hK 19 oH (fun hHeld => ?_)
       clear hK K
       refine on_ 4 20 HT_ (fun K hK => ?_)
       refine value_ (w1 := ?_) (v := ?_) (by rfl) rfl ?_ ?_
       rotate_left 2
       ·go_simp
        constructor
        ·rfl
        ·rfl
       refine hk_ hK 20 ⟨(blk_cell (blk_alloc BK142.out _) 0).trans rfl, (blk_cell (blk_alloc BK142.out _) 1).trans rfl, (blk_cell (blk_alloc BK144.out _) 0).trans rfl, (blk_cell (blk_alloc BK144.out _) 1).trans rfl, (blk_cell (blk_alloc BK144.out _) 2).trans rfl, (blk_cell (blk_alloc BK144.out _) 3).trans rfl, (blk_cell (blk_alloc BK144.out _) 4).trans rfl, (blk_cell (blk_alloc BK144.out _) 5).trans rfl⟩ (fun hHeld => ?_)
       clear hK K
       refine on_ 5 21 HT_ (fun K hK => ?_)
       refine Kd.S_append_step k51 (w0 := w) w.heap.size (by rfl) (.tmp 17) (.tmp 20) 24 51 (.agg #[(.int .i64 0), (.int .i64 0), (.int .i64 0), (.slice none 0 0), (.slice none 0 0), (.slice none 0 0)]) 96 rfl Tryz.underlying24 info51 rfl (by decide) (by omega) u143000 x143000_1 (⟨t145, t146, t147, t148, t151, t154⟩ : S51) [.int .i64 t145, .int .i64 t146, .int .i64 t147, .slice Ao25 t148.length co25, .slice Ao26 t151.length co26, .slice Ao27 t154.length co27] (fun k_ => k_ ≠ gb144) (fun k_ => some k_ = (.slice Ao25 t148.length co25 : Value).ownBlock ∨ some k_ = (.slice Ao26 t151.length co26 : Value).ownBlock ∨ some k_ = (.slice Ao27 t154.length co27 : Value).ownBlock) rfl rfl ?aP (fun k_ hk_ => hk_.elim (fun h_ => ((Kd.R_mono (ok' := fun k_ => ((fun k_ => k_ ≠ gb144)) k_ ∧ some k_ ≠ (u143000 : Value).ownBlock) (Kd.R_types (Kd.R_apart' (HO150.out) (Kd.S_typed HO_143000.out) (by decide)) BK144.out (by decide)) (fun k_ hk => ⟨hk.2, hk.1.2⟩))).1 k_ h_.symm) (fun h_ => h_.elim (fun h_ => ((Kd.R_mono (ok' := fun k_ => ((fun k_ => k_ ≠ gb144)) k_ ∧ some k_ ≠ (u143000 : Value).ownBlock) (Kd.R_types (Kd.R_apart' (HO153.out) (Kd.S_typed HO_143000.out) (by decide)) BK144.out (by decide)) (fun k_ hk => ⟨hk.2, hk.1.2⟩))).1 k_ h_.symm) (fun h_ => ((Kd.R_mono (ok' := fun k_ => ((fun k_ => k_ ≠ gb144)) k_ ∧ some k_ ≠ (u143000 : Value).ownBlock) (Kd.R_types (Kd.R_apart' (HO156.out) (Kd.S_typed HO_143000.out) (by decide)) BK144.out (by decide)) (fun k_ hk => ⟨hk.2, hk.1.2⟩))).1 k_ h_.symm))) ?aF ?aO ?aB ?aS ?aL ?_
       (case aP => exact k51_mkM _ _ _ (⟨t145, t146, t147, t148, t151, t154⟩ : S51) (Kd.R_mono (Kd.R_tight rfl (Kd.R_mono (ok' := fun k_ => ((fun k_ => k_ ≠ gb144)) k_ ∧ some k_ ≠ (u143000 : Value).ownBlock) (Kd.R_types (Kd.R_apart' (HO150.out) (Kd.S_typed HO_143000.out) (by decide)) BK144.out (by decide)) (fun k_ hk => ⟨hk.2, hk.1.2⟩))) (fun _ h_ => Or.inl h_)) (Kd.R_mono (Kd.R_tight rfl (Kd.R_mono (ok' := fun k_ => ((fun k_ => k_ ≠ gb144)) k_ ∧ some k_ ≠ (u143000 : Value).ownBlock) (Kd.R_types (Kd.R_apart' (HO153.out) (Kd.S_typed HO_143000.out) (by decide)) BK144.out (by decide)) (fun k_ hk => ⟨hk.2, hk.1.2⟩))) (fun _ h_ => Or.inr (Or.inl h_))) (Kd.R_mono (Kd.R_tight rfl (Kd.R_mono (ok' := fun k_ => ((fun k_ => k_ ≠ gb144)) k_ ∧ some k_ ≠ (u143000 : Value).ownBlock) (Kd.R_types (Kd.R_apart' (HO156.out) (Kd.S_typed HO_143000.out) (by decide)) BK144.out (by decide)) (fun k_ hk => ⟨hk.2, hk.1.2⟩))) (fun _ h_ => Or.inr (Or.inr (h_)))))
       (case aB => exact oB)
       (case aF => exact (fun k_ hk => Kd.freshB (g := gb144) (o := .cells #[.int .i64 ((rd_T51 l0_0 x12_1).f0), .int .i64 ((rd_T51 l0_0 x12_1).f1), .int .i64 ((rd_T51 l0_0 x12_1).f2), .slice A143_3 ((rd_T51 l0_0 x12_1).f3).length c143_3, .slice A143_4 ((rd_T51 l0_0 x12_1).f4).length c143_4, .slice A143_5 ((rd_T51 l0_0 x12_1).f5).length c143_5] 51 (0, 0)) (oF BK144) k_ hk))
       (case aO => exact (by (with_reducible repeat (first | apply Kd.S_alloc | apply Kd.S_drewN | apply Kd.S_drew)); exact Kd.S_mono HO_143000.out (fun k_ hk => ⟨hk.1.1.1, fun e_ => e_.elim (fun h_ => hk.1.1.2 h_) (fun h_ => h_.elim (fun h_ => hk.1.2 h_) (fun h_ => hk.2 h_))⟩)))
       (case aS => exact (below_size oB))
       (case aL => have := LMc15.out; omega)
       intro v158 w24 ho hb hg hat
       rw [← Ny157.out] at ho
       have HO159 := Aside0.mk (ho)
       replace BK140 := Aside0.mk (blk_grown (g := gb140) (o := .cells #[.slice (some ad143) l0_0.length c0_0, .int .i64 a0_1] 26 (0, 0)) (oF BK140) hg (Kd.S_ne HO_143000.out BK140.out (by decide)))
       replace BK141 := Aside0.mk (blk_grown (g := gb141) (o := .cells #[.slice none 0 0, .int .i64 0] 26 (0, 0)) (oF BK141) hg (Kd.S_ne HO_143000.out BK141.out (by decide)))
       replace BK142 := Aside0.mk (blk_grown (g := gb142) (o := .cells #[u143000, .int .i64 a0_1] 26 (0, 0)) (oF BK142) hg (Kd.S_ne HO_143000.out BK142.out (by decide)))
       replace BK144 := Aside0.mk (blk_grown (g := gb144) (o := .cells #[.int .i64 ((rd_T51 l0_0 x12_1).f0), .int .i64 ((rd_T51 l0_0 x12_1).f1), .int .i64 ((rd_T51 l0_0 x12_1).f2), .slice A143_3 ((rd_T51 l0_0 x12_1).f3).length c143_3, .slice A143_4 ((rd_T51 l0_0 x12_1).f4).length c143_4, .slice A143_5 ((rd_T51 l0_0 x12_1).f5).length c143_5] 51 (0, 0)) (oF BK144) hg (Kd.S_away HO_143000.out (fun _ hk => hk.1.1.1)))
       replace HB := Aside0.mk (hb)
       clear HO_143000
       clear HO150
       clear HO153
       clear HO156
       clear ho hb hg hat
       obtain ⟨Ao28, co28, eo28⟩ := Kd.S_slice HO159.out
       (first | subst eo28 | (injection eo28 with f1_ f2_ f3_; have f4_ := f1_.symm; have f5_ := f3_.symm; clear f1_ f2_ f3_; subst f4_; subst f5_))
       refine hk_ hK 21 oH (fun hHeld => ?_)
       clear hK K
       refine pu_ 6 22 HT_ ?_
       refine last_ (i := 7) (N := none) (lb 8 255) rfl rfl (one_of HT_.out (by kernel_rfl)) (by decide) (fun K hK => ?_)
       have hs29 : w24.cell? ⟨gb142, 0, none⟩ = some (u143000) := (blk_cell BK142.out 0).trans rfl
       have hfs29 := blk_frozen BK142.out 0
       have hns29_0 := NB140_142.out
       have hns29_1 := NB141_142.out
       have hns29_3 := NB144_142.out
       have hms29_0 := NB142_140.out
       have hms29_1 := NB142_141.out
       have hms29_3 := NB142_144.out
       refine skip_ (w1 := ?_) (by rfl) rfl ?_ ?_
       rotate_left
       ·go_simp
        rfl
       refine hK.out _ _ ?_
       clear hK K
       refine dn_ HT_ ?_
       try go_wp2
       go_roundg k1
       case measure => have := HK1.out; omega
       case rel => exact ⟨(wrap64 (x12_1 + 1)), (y157), (.slice Ao28 y157.length co28), oS, H', ⟨by have := HK1.out; omega⟩, ⟨by (with_reducible repeat (first | apply Kd.S_alloc | apply Kd.S_drewN | apply Kd.S_drew)); exact Kd.S_mono (Kd.S_far (p := ⟨gb142, 0, none⟩) (Kd.S_types HO159.out BK142.out (by decide)) (fun _ hk => hk.2) (.slice Ao28 y157.length co28)) (fun _ hk => trivial)⟩, ⟨oF BK140⟩, ⟨oF BK141⟩, ⟨oP BK142⟩, ⟨oB⟩⟩
      ·rw [if_neg c15] at H
       exact absurd H (by simp)
     ·cases H
    ·cases H
   ·simp only [Option.some.injEq, Prod.mk.injEq] at H
    obtain ⟨rfl, rfl⟩ := H
    have hnb30 := NB142_140.out
    have hnc30 := NB140_142.out
    have hnb31 := NB142_141.out
    have hnc31 := NB141_142.out
    obtain ⟨⟨_, _⟩, _, _⟩ := z2 BK142
    obtain ⟨Ao33, co33, eo33⟩ := Kd.S_slice HO_143000.out
    subst eo33
    have hnb34 := NB141_140.out
    have hnc34 := NB140_141.out
    obtain ⟨⟨_, _⟩, _, _⟩ := z2 BK141
    go_wp2
    refine bodyPost_ret (results_cell_row rfl _ _ gb141 26 #[.slice Ao33 x143000_1.length co33, .int .i64 a0_1] (0, 0) _ rfl (oP BK141) Tryz.underlying26 rfl (by kernel_rfl)) rfl ?_
    exact ⟨_, oE, by (with_reducible repeat (first | apply Kd.S_alloc | apply Kd.S_drewN | apply Kd.S_drew)); exact Kd.S_mono (Kd.S_far (p := ⟨gb141, 1, none⟩) (Kd.S_far (p := ⟨gb141, 0, none⟩) (Kd.S_types HO_143000.out BK141.out (by decide)) (fun _ hk => hk.2) (.slice Ao33 x143000_1.length co33)) (fun _ hk => hk.2) (.int .i64 a0_1)) (fun _ hk => trivial), oB⟩

/-! ### impl_SplitPath: function 16 -/
def impl_SplitPath.f (k : Nat) (a0 : ByteArray) : Option (List ByteArray × Bool) := if a0.toList = ([47] : List UInt8) then (some (([] : List ByteArray), true)) else ((strings_Split.f a0 (⟨#[47]⟩ : ByteArray)).bind fun t160 => (if 0 < (t160.length : Int) then (if (rdOf ByteArray.empty t160 0).toList = ([] : List UInt8) then (if (t160.length : Int) < 2 then (some (([] : List ByteArray), false)) else (if 1 ≤ (t160.length : Int) then ((impl_namesOk.f k (t160.drop 1)).bind fun t168 => (if t168 = true then (some ((t160.drop (1 : Int).toNat), true)) else (some (([] : List ByteArray), false)))) else (none))) else (some (([] : List ByteArray), false))) else (none)))
set_option maxHeartbeats 8000000 in
set_option maxRecDepth 100000 in
theorem impl_SplitPath.calls (k : Nat) (a0 : ByteArray) (r1 : List ByteArray) (r2 : Bool) (w : World) (h : impl_SplitPath.f k a0 = some (r1, r2)) (hG : GOk w := by exact gk_ oB (by first | (with_reducible assumption) | assumption)) :
  Calls Tryz.prog 16 #[.string a0] w fun e w' => ∃ v0_ : Value, e = .returned (.tuple #[v0_, .bool r2]) ∧ Kd.Q Kd.string 9 w' w.heap.size (fun _ => True) v0_ r1 ∧ Below w.heap.size w w' := by
 have HG := Aside0.mk hG
 clear hG
 have HB := Aside0.mk (Below.refl w.heap.size w)
 unfold impl_SplitPath.f at h
 have H := h
 clear h
 by_cases c2 : a0.toList = ([47] : List UInt8)
 ·rw [if_pos c2] at H
  have c2b0 : (a0.toList == ([47] : List UInt8)) = true := beq_iff_eq.mpr c2
  have c2b1 : (a0.toList != ([47] : List UInt8)) = false := bne_eq_false_iff_eq.mpr c2
  clear c2
  simp only [Option.some.injEq, Prod.mk.injEq] at H
  obtain ⟨rfl, rfl⟩ := H
  go_enter Tryz.func16, Tryz.ntmps16
  go_wp2
  go_ret2
  exact ⟨_, oE, Kd.Q_of_R (by first | exact Kd.R_nil _ _ _ _ _ | exact Kd.N_nil _ _ _ _ _ | exact Kd.V_nil _ _ _ _ _ | exact Kd.Q_nil _ _ _ _ _ | exact Kd.S_nil _ _ _ _ _), oB⟩
 ·rw [if_neg c2] at H
  have c2b0 : (a0.toList == ([47] : List UInt8)) = false := beq_eq_false_iff_ne.mpr c2
  have c2b1 : (a0.toList != ([47] : List UInt8)) = true := bne_iff_ne.mpr c2
  replace H := bA H
  obtain ⟨t160, A3, H⟩ := H
  try dsimp only at H
  by_cases c4 : 0 < (t160.length : Int)
  ·rw [if_pos c4] at H
   have c4b0 : decide (0 < (t160.length : Int)) = true := decide_eq_true c4
   have c4b1 : decide (0 < t160.length) = true := decide_eq_true (by omega)
   clear c4
   by_cases c5 : (rdOf ByteArray.empty t160 0).toList = ([] : List UInt8)
   ·rw [if_pos c5] at H
    have c5b0 : ((rdOf ByteArray.empty t160 0).toList == ([] : List UInt8)) = true := beq_iff_eq.mpr c5
    have c5b1 : ((rdOf ByteArray.empty t160 0).toList != ([] : List UInt8)) = false := bne_eq_false_iff_eq.mpr c5
    clear c5
    by_cases c6 : (t160.length : Int) < 2
    ·rw [if_pos c6] at H
     have c6b0 : decide ((t160.length : Int) < 2) = true := decide_eq_true c6
     have c6b1 : decide (t160.length < 2) = true := decide_eq_true (by omega)
     clear c6
     simp only [Option.some.injEq, Prod.mk.injEq] at H
     obtain ⟨rfl, rfl⟩ := H
     go_enter Tryz.func16, Tryz.ntmps16
     go_wp2_with (first | ((with_reducible refine gate_callee (f := 36) rfl ?_); refine gl_ 8 Tryz.func36 (strings_Split.calls a0 (⟨#[47]⟩ : ByteArray) t160 _ A3.out) ?_; rintro e w7 ⟨v161, rfl, ho0, hb⟩; refine ⟨_, rfl, ?_⟩; have HO162 := Aside0.mk (Kd.R_lower ho0 (below_size oB)); replace HB := Aside0.mk (below_step oB hb); obtain ⟨Ao8, co8, eo8⟩ := Kd.R_slice HO162.out; subst eo8; have p163 : 0 ≤ (0 : Int) := (by omega); have q163 : 0 < (t160.length : Int) := oa; obtain ⟨ad163, e163, hx163_0⟩ := Kd.at_string (Kd.R_reads' HO162.out).2.2 0 p163 q163; cases e163; have qi163 : (0 < t160.length) = True := eq_true (by omega); (try rw [show ((0 : Int)).toNat = 0 from rfl] at hx163_0); (try rw [Addr.add_zero'] at hx163_0); replace p163 := eq_true p163; replace q163 := eq_true q163))
     go_ret2
     exact ⟨_, oE, Kd.Q_of_R (by first | exact Kd.R_nil _ _ _ _ _ | exact Kd.N_nil _ _ _ _ _ | exact Kd.V_nil _ _ _ _ _ | exact Kd.Q_nil _ _ _ _ _ | exact Kd.S_nil _ _ _ _ _), oB⟩
    ·rw [if_neg c6] at H
     have c6b0 : decide ((t160.length : Int) < 2) = false := decide_eq_false c6
     have c6b1 : decide (t160.length < 2) = false := decide_eq_false (by omega)
     clear c6
     by_cases c9 : 1 ≤ (t160.length : Int)
     ·rw [if_pos c9] at H
      have c9b0 := eq_true c9
      have c9b1 : decide (1 ≤ (t160.length : Int)) = true := decide_eq_true c9
      clear c9
      obtain ⟨y164, hy164⟩ : ∃ y_ : List ByteArray, y_ = (t160.drop 1) := ⟨_, rfl⟩
      replace H : ((impl_namesOk.f k y164).bind fun t168 => (if t168 = true then (some ((t160.drop (1 : Int).toNat), true)) else (some (([] : List ByteArray), false)))) = some (r1, r2) := by first | (rw [hy164]; with_reducible exact H) | (have H2_ := (Option.bind_some _ _).symm.trans H; rw [hy164]; with_reducible exact H2_) | (have H2_ := (Option.bind_some _ _).symm.trans H; with_reducible exact H2_) | with_reducible exact H | (rw [hy164]; exact H) | exact H
      have Ny164 := Aside0.mk hy164
      clear hy164
      replace H := bA H
      obtain ⟨t168, A10, H⟩ := H
      try dsimp only at H
      replace H := itB H
      rcases H with ⟨rfl, H⟩ | ⟨rfl, H⟩
      ·have c12b0 := eq_true (oa : 1 ≤ (t160.length : Int))
       obtain ⟨y169, hy169⟩ : ∃ y_ : List ByteArray, y_ = (t160.drop (1 : Int).toNat) := ⟨_, rfl⟩
       replace H : (some (y169, true)) = some (r1, r2) := by first | (rw [hy169]; with_reducible exact H) | (have H2_ := (Option.bind_some _ _).symm.trans H; rw [hy169]; with_reducible exact H2_) | (have H2_ := (Option.bind_some _ _).symm.trans H; with_reducible exact H2_) | with_reducible exact H | (rw [hy169]; exact H) | exact H
       have Ny169 := Aside0.mk hy169
       clear hy169
       simp only [Option.some.injEq, Prod.mk.injEq] at H
       obtain ⟨rfl, rfl⟩ := H
       go_enter Tryz.func16, Tryz.ntmps16
       go_wp2_with (first | ((with_reducible refine gate_callee (f := 36) rfl ?_); refine gl_ 8 Tryz.func36 (strings_Split.calls a0 (⟨#[47]⟩ : ByteArray) t160 _ A3.out) ?_; rintro e w13 ⟨v161, rfl, ho0, hb⟩; refine ⟨_, rfl, ?_⟩; have HO162 := Aside0.mk (Kd.R_lower ho0 (below_size oB)); replace HB := Aside0.mk (below_step oB hb); obtain ⟨Ao14, co14, eo14⟩ := Kd.R_slice HO162.out; subst eo14; have p163 : 0 ≤ (0 : Int) := (by omega); have q163 : 0 < (t160.length : Int) := oa; obtain ⟨ad163, e163, hx163_0⟩ := Kd.at_string (Kd.R_reads' HO162.out).2.2 0 p163 q163; cases e163; have qi163 : (0 < t160.length) = True := eq_true (by omega); (try rw [show ((0 : Int)).toNat = 0 from rfl] at hx163_0); (try rw [Addr.add_zero'] at hx163_0); replace p163 := eq_true p163; replace q163 := eq_true q163; have q15 : (1 : Int) ≤ ((t160.length : Int) : Int) := oa; obtain ⟨i015, hi015, _, hsz15, _⟩ := info_parts info9; have hroom15 : t160.length ≤ co14 := (Kd.R_reads' HO162.out).2.1; have hC15 : Kd.C Kd.string _ (some ad163) t160.length t160 := (Kd.R_reads' HO162.out).2.2; have hcut15 := cut_from (P := Tryz.prog) 31 9 .i64 Tryz.underlying31 hi015 1 hsz15 (some ad163) t160.length co14 1 (by omega) q15; have hr15 := Kd.C_drop (m := (1 : Int).toNat) (c := co14) hC15 (by omega) hroom15; obtain ⟨A15, hA15⟩ : ∃ A1, A1 = (if co14 = (1 : Int).toNat then (some ad163) else ((some ad163) : Option Addr).map (·.add ((1 : Int).toNat * 1))) := ⟨_, rfl⟩; obtain ⟨c15, hc15⟩ : ∃ c1, c1 = co14 - (1 : Int).toNat := ⟨_, rfl⟩; have hy15 : y164.length = t160.length - (1 : Int).toNat := (by rw [Ny164.out, List.length_drop] <;> omega); rw [show (t160).drop (1 : Int).toNat = y164 from Ny164.out.symm] at hr15; replace hr15 : Kd.C Kd.string _ A15 y164.length y164 := (by rw [hA15]; exact hr15); rw [← hy15, ← hA15, ← hc15] at hcut15; have HR167 := Aside0.mk hr15; have HC167 := Aside0.mk (show y164.length ≤ c15 from by rw [hy15, hc15]; exact Nat.sub_le_sub_right hroom15 _); have KC15 := Aside0.mk hc15; clear hr15 hC15 hroom15 hi015 hsz15 hc15; have KY15 := Aside0.mk hy15; have KA15 := Aside0.mk hA15; clear hy15 hA15; have KL15 := Aside0.mk (show 1 ≤ t160.length from by omega); replace q15 := eq_true q15) | (go_at_call 37; (with_reducible refine (impl_namesOk.calls k _ _ y164 true _ ?side1 HC167.out A10.out).mono ?_); (case side1 => repeat (first | exact (by repeat (first | (with_reducible exact HR167.out) | (with_reducible refine Kd.C_alloc ?_ _) | (with_reducible refine Kd.C_drewN ?_ _) | (with_reducible refine Kd.C_drew ?_) | exact HR167.out)) | (with_reducible refine Kd.C_alloc ?_ _) | (with_reducible refine Kd.C_drewN ?_ _) | (with_reducible refine Kd.C_drew ?_))); rintro e w16 ⟨rfl, hb⟩; replace HO162 := kr_ HO162 hb; replace HR167 := Aside0.mk (Kd.C_below (by repeat (first | (with_reducible exact HR167.out) | (with_reducible refine Kd.C_alloc ?_ _) | (with_reducible refine Kd.C_drewN ?_ _) | (with_reducible refine Kd.C_drew ?_) | exact HR167.out)) hb); replace HB := Aside0.mk (below_step oB hb); have q17 : (1 : Int) ≤ ((t160.length : Int) : Int) := oa; obtain ⟨i017, hi017, _, hsz17, _⟩ := info_parts info9; have hcut17 := cut_from (P := Tryz.prog) 31 9 .i64 Tryz.underlying31 hi017 1 hsz17 (some ad163) t160.length co14 1 (by omega) q17; have hr17 := Kd.Q_drop (k := (1 : Int).toNat) (Kd.Q_of_R HO162.out) (by omega); obtain ⟨A17, hA17⟩ : ∃ A1, A1 = (if co14 = (1 : Int).toNat then (some ad163) else ((some ad163) : Option Addr).map (·.add ((1 : Int).toNat * 1))) := ⟨_, rfl⟩; obtain ⟨c17, hc17⟩ : ∃ c1, c1 = co14 - (1 : Int).toNat := ⟨_, rfl⟩; have hy17 : y169.length = t160.length - (1 : Int).toNat := (by rw [Ny169.out, List.length_drop]); rw [← Ny169.out] at hr17; rw [← hy17, ← hA17, ← hc17] at hcut17; replace hr17 : Kd.Q Kd.string 9 w16 w.heap.size (fun _ => True) (.slice A17 y169.length c17) y169 := (by rw [hA17, hc17, hy17]; exact hr17); have HE17 : Aside0 ((Value.slice A17 y169.length c17).ownBlock = (.slice (some ad163) t160.length co14 : Value).ownBlock) := ⟨by rw [hA17]; split <;> (cases ((some ad163) : Option Addr) <;> rfl)⟩; obtain rfl : A15 = A17 := KA15.out.trans hA17.symm; obtain rfl : c15 = c17 := KC15.out.trans hc17.symm; obtain rfl : y164 = y169 := Ny164.out.trans Ny169.out.symm; clear hy17 hi017 hsz17 HO162 hA17 hc17; have HO171 := Aside0.mk hr17; clear hr17; replace q17 := eq_true q17))
       go_ret2
       exact ⟨_, oE, by (with_reducible repeat (first | apply Kd.Q_alloc | apply Kd.Q_drewN | apply Kd.Q_drew)); exact HO171.out, oB⟩
      ·simp only [Option.some.injEq, Prod.mk.injEq] at H
       obtain ⟨rfl, rfl⟩ := H
       go_enter Tryz.func16, Tryz.ntmps16
       go_wp2_with (first | ((with_reducible refine gate_callee (f := 36) rfl ?_); refine gl_ 8 Tryz.func36 (strings_Split.calls a0 (⟨#[47]⟩ : ByteArray) t160 _ A3.out) ?_; rintro e w18 ⟨v161, rfl, ho0, hb⟩; refine ⟨_, rfl, ?_⟩; have HO162 := Aside0.mk (Kd.R_lower ho0 (below_size oB)); replace HB := Aside0.mk (below_step oB hb); obtain ⟨Ao19, co19, eo19⟩ := Kd.R_slice HO162.out; subst eo19; have p163 : 0 ≤ (0 : Int) := (by omega); have q163 : 0 < (t160.length : Int) := oa; obtain ⟨ad163, e163, hx163_0⟩ := Kd.at_string (Kd.R_reads' HO162.out).2.2 0 p163 q163; cases e163; have qi163 : (0 < t160.length) = True := eq_true (by omega); (try rw [show ((0 : Int)).toNat = 0 from rfl] at hx163_0); (try rw [Addr.add_zero'] at hx163_0); replace p163 := eq_true p163; replace q163 := eq_true q163; have q20 : (1 : Int) ≤ ((t160.length : Int) : Int) := oa; obtain ⟨i020, hi020, _, hsz20, _⟩ := info_parts info9; have hroom20 : t160.length ≤ co19 := (Kd.R_reads' HO162.out).2.1; have hC20 : Kd.C Kd.string _ (some ad163) t160.length t160 := (Kd.R_reads' HO162.out).2.2; have hcut20 := cut_from (P := Tryz.prog) 31 9 .i64 Tryz.underlying31 hi020 1 hsz20 (some ad163) t160.length co19 1 (by omega) q20; have hr20 := Kd.C_drop (m := (1 : Int).toNat) (c := co19) hC20 (by omega) hroom20; obtain ⟨A20, hA20⟩ : ∃ A1, A1 = (if co19 = (1 : Int).toNat then (some ad163) else ((some ad163) : Option Addr).map (·.add ((1 : Int).toNat * 1))) := ⟨_, rfl⟩; obtain ⟨c20, hc20⟩ : ∃ c1, c1 = co19 - (1 : Int).toNat := ⟨_, rfl⟩; have hy20 : y164.length = t160.length - (1 : Int).toNat := (by rw [Ny164.out, List.length_drop] <;> omega); rw [show (t160).drop (1 : Int).toNat = y164 from Ny164.out.symm] at hr20; replace hr20 : Kd.C Kd.string _ A20 y164.length y164 := (by rw [hA20]; exact hr20); rw [← hy20, ← hA20, ← hc20] at hcut20; have HR167 := Aside0.mk hr20; have HC167 := Aside0.mk (show y164.length ≤ c20 from by rw [hy20, hc20]; exact Nat.sub_le_sub_right hroom20 _); clear hr20 hC20 hroom20 hi020 hsz20 hc20; have KY20 := Aside0.mk hy20; have KA20 := Aside0.mk hA20; clear hy20 hA20; have KL20 := Aside0.mk (show 1 ≤ t160.length from by omega); replace q20 := eq_true q20) | (go_at_call 37; (with_reducible refine (impl_namesOk.calls k _ _ y164 false _ ?side1 HC167.out A10.out).mono ?_); (case side1 => repeat (first | exact (by repeat (first | (with_reducible exact HR167.out) | (with_reducible refine Kd.C_alloc ?_ _) | (with_reducible refine Kd.C_drewN ?_ _) | (with_reducible refine Kd.C_drew ?_) | exact HR167.out)) | (with_reducible refine Kd.C_alloc ?_ _) | (with_reducible refine Kd.C_drewN ?_ _) | (with_reducible refine Kd.C_drew ?_))); rintro e w21 ⟨rfl, hb⟩; replace HO162 := kr_ HO162 hb; replace HR167 := Aside0.mk (Kd.C_below (by repeat (first | (with_reducible exact HR167.out) | (with_reducible refine Kd.C_alloc ?_ _) | (with_reducible refine Kd.C_drewN ?_ _) | (with_reducible refine Kd.C_drew ?_) | exact HR167.out)) hb); replace HB := Aside0.mk (below_step oB hb)))
       go_ret2
       exact ⟨_, oE, Kd.Q_of_R (by first | exact Kd.R_nil _ _ _ _ _ | exact Kd.N_nil _ _ _ _ _ | exact Kd.V_nil _ _ _ _ _ | exact Kd.Q_nil _ _ _ _ _ | exact Kd.S_nil _ _ _ _ _), oB⟩
     ·rw [if_neg c9] at H
      exact absurd H (by simp)
   ·rw [if_neg c5] at H
    have c5b0 : ((rdOf ByteArray.empty t160 0).toList == ([] : List UInt8)) = false := beq_eq_false_iff_ne.mpr c5
    have c5b1 : ((rdOf ByteArray.empty t160 0).toList != ([] : List UInt8)) = true := bne_iff_ne.mpr c5
    simp only [Option.some.injEq, Prod.mk.injEq] at H
    obtain ⟨rfl, rfl⟩ := H
    go_enter Tryz.func16, Tryz.ntmps16
    go_wp2_with (first | ((with_reducible refine gate_callee (f := 36) rfl ?_); refine gl_ 8 Tryz.func36 (strings_Split.calls a0 (⟨#[47]⟩ : ByteArray) t160 _ A3.out) ?_; rintro e w22 ⟨v161, rfl, ho0, hb⟩; refine ⟨_, rfl, ?_⟩; have HO162 := Aside0.mk (Kd.R_lower ho0 (below_size oB)); replace HB := Aside0.mk (below_step oB hb); obtain ⟨Ao23, co23, eo23⟩ := Kd.R_slice HO162.out; subst eo23; have p163 : 0 ≤ (0 : Int) := (by omega); have q163 : 0 < (t160.length : Int) := oa; obtain ⟨ad163, e163, hx163_0⟩ := Kd.at_string (Kd.R_reads' HO162.out).2.2 0 p163 q163; cases e163; have qi163 : (0 < t160.length) = True := eq_true (by omega); (try rw [show ((0 : Int)).toNat = 0 from rfl] at hx163_0); (try rw [Addr.add_zero'] at hx163_0); replace p163 := eq_true p163; replace q163 := eq_true q163))
    go_ret2
    exact ⟨_, oE, Kd.Q_of_R (by first | exact Kd.R_nil _ _ _ _ _ | exact Kd.N_nil _ _ _ _ _ | exact Kd.V_nil _ _ _ _ _ | exact Kd.Q_nil _ _ _ _ _ | exact Kd.S_nil _ _ _ _ _), oB⟩
  ·rw [if_neg c4] at H
   exact absurd H (by simp)

/-! ### impl_JoinPath: function 110 -/
theorem le_of_ {a b c : Nat} (h : Aside0 (a = b)) (k : Aside0 (b ≤ c)) : a ≤ c := Nat.le_trans (Nat.le_of_eq h.out) k.out
theorem rSpot {α : Type} {d : Kd α} {e base n c : Nat} {ok : Nat → Prop} {w : World} {A : Option Addr} {xs ys : List α} (h : d.R e w base ok (.slice A n c) xs) (_hs : ys.length ≤ xs.length) : ∀ ad, A = some ad → 0 < ys.length → ad.spot = none := by
 intro ad hA _
 subst hA
 obtain ⟨g, rfl⟩ := Kd.R_head h
 rfl
theorem qSpot {α : Type} {d : Kd α} {e base n c : Nat} {ok : Nat → Prop} {w : World} {A : Option Addr} {xs ys : List α} (h : d.Q e w base ok (.slice A n c) xs) (hs : ys.length ≤ xs.length) : ∀ ad, A = some ad → 0 < ys.length → ad.spot = none := by
 intro ad hA hp
 subst hA
 have hl := (Kd.Q_reads' h).1
 obtain ⟨_, inner, ⟨_, ho⟩, _⟩ := h
 rcases ho with ⟨h1, _⟩ | ⟨g, o, cap, cur, h1, _⟩
 ·omega
 ·injection h1 with h1
  injection h1 with h1
  rw [h1]
def joinB (l : List ByteArray) : ByteArray := ⟨(Lib.join (l.map (·.data.toList)) [47]).toArray⟩
theorem joinC (A : Option Addr) (c : Nat) (l : List ByteArray) (w : World) (hr : Kd.C Kd.string w A l.length l) (hA : ∀ ad, A = some ad → 0 < l.length → ad.spot = none) (hc : l.length ≤ c) (hN : l.length ≤ 140737488355328) (hlen : (joinB l).size ≤ 140737488355328) :
  Calls Tryz.prog 134 #[.slice A l.length c, .string ⟨#[47]⟩] w fun e w' => e = .returned (.string (joinB l)) ∧ Below w.heap.size w w' := by
 by_cases h0 : l.length = 0
 ·obtain rfl := List.eq_nil_of_length_eq_zero h0
  exact (Any.strings_Join_none Tryz.lays156 Tryz.Builder_Extra_156 A c ⟨#[47]⟩ w).mono fun e w' ⟨he, hw⟩ => ⟨he, hw ▸ Below.refl _ _⟩
 ·obtain ⟨ad, c1, e0, _, hK, hcell⟩ := Kd.C_get hr ⟨#[]⟩ 0 (by omega) (by omega)
  subst e0
  have hsp := hA ad rfl (by omega)
  obtain ⟨bk, o, sp⟩ := ad
  have hsp : sp = none := hsp
  subst hsp
  have hcells : ∀ (j : Nat) x, l[j]? = some x → w.cell? ⟨bk, o + j, none⟩ = some (.string x) := fun j x hx => by
   obtain ⟨hj, hx⟩ := List.getElem?_eq_some_iff.1 hx
   obtain ⟨ad', c', e', _, hK', hcell'⟩ := Kd.C_get hr ⟨#[]⟩ (j : Int) (by omega) (by omega)
   injection e' with e'
   subst e'
   have hg : l.getD (j : Int).toNat ⟨#[]⟩ = x := by rw [Int.toNat_natCast, List.getD_eq_getElem?_getD, List.getElem?_eq_getElem hj]; exact hx
   rw [hg] at hK'
   obtain rfl : c' = [.string x] := hK'
   have := hcell' 0 _ rfl
   simpa [Kd.string, Kd.scalar, Addr.add_lit] using this
  have hbk : bk < w.heap.size := World.block_lt_of_cell? w _ (hcells 0 l[0] (List.getElem?_eq_getElem (by omega)))
  exact Any.strings_Join Tryz.lays156 Tryz.Builder_Extra_156 bk o c l ⟨#[47]⟩ w hcells hbk hN hc (by simpa [joinB, ByteArray.size] using hlen)
def impl_JoinPath.f (k : Nat) (l : List ByteArray) : Option ByteArray := (impl_namesOk.f k l).bind fun b => if b = true then (if l.length ≤ 140737488355328 ∧ (joinB l).size ≤ 140737488355327 then some ((⟨#[47]⟩ : ByteArray) ++ joinB l) else none) else some ⟨#[]⟩
theorem impl_JoinPath.calls (k : Nat) (A0 : Option Addr) (c0 : Nat) (l0 : List ByteArray) (r : ByteArray) (w : World) (hr : Kd.C Kd.string w A0 l0.length l0) (hc0 : l0.length ≤ c0) (h : impl_JoinPath.f k l0 = some r) (hA : ∀ ad, A0 = some ad → 0 < l0.length → ad.spot = none := by first | exact qSpot (by first | (with_reducible assumption) | exact Aside0.out (by with_reducible assumption)) (by first | exact Nat.le_refl _ | exact List.length_take_le _ _ | exact le_of_ (by with_reducible assumption) (by with_reducible assumption)) | exact rSpot (by first | (with_reducible assumption) | exact Aside0.out (by with_reducible assumption)) (by first | exact Nat.le_refl _ | exact List.length_take_le _ _ | exact le_of_ (by with_reducible assumption) (by with_reducible assumption))) :
  Calls Tryz.prog 110 #[.slice A0 l0.length c0] w fun e w' => e = .returned (.string r) ∧ Below w.heap.size w w' := by
 unfold impl_JoinPath.f at h
 replace h := bA h
 obtain ⟨b, A1, h⟩ := h
 have hn := impl_namesOk.calls k A0 c0 l0 b w hr hc0 A1.out
 cases b with
 | true =>
  rw [if_pos rfl] at h
  split at h
  case isFalse => cases h
  case isTrue hl =>
  obtain rfl := Option.some.inj h
  have hs : 1 + (joinB l0).size ≤ 9223372036854775807 := by omega
  have hj := fun w1 (hb : Below w.heap.size w w1) => joinC A0 c0 l0 w1 (Kd.C_below hr hb) hA hc0 hl.1 (by omega)
  clear h hr hA hl A1 hc0
  go_enter Tryz.func110, Tryz.ntmps110
  go_wp2_with (first
   | (go_at_call 37; refine hn.mono ?_; rintro e w1 ⟨rfl, hb⟩)
   | (go_at_call 134; refine (hj _ hb).mono ?_; rintro e w2 ⟨rfl, hb2⟩))
  go_ret
  exact ⟨rfl, below_then hb hb.size hb2⟩
 | false =>
  rw [if_neg (by simp)] at h
  obtain rfl := Option.some.inj h
  clear h hr hA A1 hc0
  go_enter Tryz.func110, Tryz.ntmps110
  go_wp2_with (go_at_call 37; refine hn.mono ?_; rintro e w1 ⟨rfl, hb⟩)
  go_ret
  exact ⟨rfl, hb⟩
/-! ### impl_InodeAt: function 42 -/
def impl_InodeAt.f (k : Nat) (l0_0 : List (S51)) (a0_1 : Int) (a1 : Int) : Option (Int × Int × Int × List Int × (List (S65)) × (List (S71)) × Bool) := (impl_placeOf.f k l0_0 a0_1 a1).bind fun t174 => (if t174 < 0 then (some (0, 0, 0, ([] : List Int), ([] : List (S65)), ([] : List (S71)), false)) else (if 0 ≤ t174 then (if t174 < (l0_0.length : Int) then ((impl_copyInode.f ((rd_T51 l0_0 t174).f0) ((rd_T51 l0_0 t174).f1) ((rd_T51 l0_0 t174).f2) ((rd_T51 l0_0 t174).f3) ((rd_T51 l0_0 t174).f4) ((rd_T51 l0_0 t174).f5)).bind fun bt176 => (some (bt176.1, bt176.2.1, bt176.2.2.1, bt176.2.2.2.1, bt176.2.2.2.2.1, bt176.2.2.2.2.2, true))) else (none)) else (none)))
set_option maxHeartbeats 8000000 in
set_option maxRecDepth 100000 in
theorem impl_InodeAt.calls (k : Nat) (A0_0 : Option Addr) (c0_0 : Nat) (l0_0 : List (S51)) (a0_1 : Int) (a1 : Int) (r1 : Int) (r2 : Int) (r3 : Int) (r4 : List Int) (r5 : List (S65)) (r6 : List (S71)) (r7 : Bool) (w : World) (hr0_0 : Kd.C k51 w A0_0 l0_0.length l0_0) (hc0_0 : l0_0.length ≤ c0_0) (h : impl_InodeAt.f k l0_0 a0_1 a1 = some (r1, r2, r3, r4, r5, r6, r7)) :
  Calls Tryz.prog 42 #[.agg #[.slice A0_0 l0_0.length c0_0, .int .i64 a0_1], .int .i64 a1] w fun e w' => ∃ v3_ v4_ v5_ : Value, e = .returned (.tuple #[.agg #[.int .i64 r1, .int .i64 r2, .int .i64 r3, v3_, v4_, v5_], .bool r7]) ∧ Kd.R (Kd.int .u8) 5 w' w.heap.size (fun _ => True) v3_ r4 ∧ Kd.R k65 65 w' w.heap.size (fun _ => True) v4_ r5 ∧ Kd.R k71 71 w' w.heap.size (fun _ => True) v5_ r6 ∧ Below w.heap.size w w' := by
 have hu26 := Tryz.underlying26
 have hu51 := Tryz.underlying51
 have HR0_0 := Aside0.mk hr0_0
 have HC0_0 := Aside0.mk hc0_0
 clear hr0_0 hc0_0
 have HB := Aside0.mk (Below.refl w.heap.size w)
 unfold impl_InodeAt.f at h
 have H := h
 clear h
 replace H := bA H
 obtain ⟨t174, A3, H⟩ := H
 try dsimp only at H
 replace H := itD H
 rcases H with ⟨c4b0, H⟩ | ⟨c4b0, H⟩
 ·simp only [Option.some.injEq, Prod.mk.injEq] at H
  obtain ⟨rfl, rfl, rfl, rfl, rfl, rfl, rfl⟩ := H
  go_enter Tryz.func42, Tryz.ntmps42
  go_wp2_with (first | ((with_reducible refine gate_dst (N := 2) rfl ?_); refine bx_ 2 #[.slice A0_0 l0_0.length c0_0, .int .i64 a0_1] 26 ?_; intro gb172 hg w5 hbox hb; have BK172 := Aside0.mk (hbox); have GW172 := gs_ hg; replace HB := Aside0.mk (below_step oB hb); clear hb hbox hg) | ((with_reducible refine gate_dst (N := 4) rfl ?_); refine bx_ 4 #[.int .i64 0, .int .i64 0, .int .i64 0, .slice none 0 0, .slice none 0 0, .slice none 0 0] 51 ?_; intro gb173 hg w6 hbox hb; have BK173 := Aside0.mk (hbox); have GW173 := gs_ hg; have NB172_173 := nl_ hg BK172; have NB173_172 := nr_ hg BK172; replace BK172 := kb_ BK172 hb; replace HB := Aside0.mk (below_step oB hb); clear hb hbox hg; have hnb7 := NB172_173.out; have hnc7 := NB173_172.out; obtain ⟨⟨_, _⟩, _, _⟩ := z2 BK172) | ((with_reducible refine gate_callee (f := 41) rfl ?_); refine gl_ 9 Tryz.func41 (impl_placeOf.calls k _ _ l0_0 a0_1 a1 t174 _ (kC HR0_0) HC0_0.out A3.out) ?_; rintro e w9 ⟨rfl, hb⟩; refine ⟨_, rfl, ?_⟩; replace BK172 := kb_ BK172 hb; replace BK173 := kb_ BK173 hb; replace HB := Aside0.mk (below_step oB hb); obtain ⟨⟨_, _, _, _, _, _⟩, _, _, _, _, _, _⟩ := z6 BK173))
  refine bodyPost_ret (results_ct rfl _ _ gb173 51 #[.int .i64 0, .int .i64 0, .int .i64 0, .slice none 0 0, .slice none 0 0, .slice none 0 0] (0, 0) _ rfl (oP BK173) Tryz.underlying51 rfl (by kernel_rfl)) rfl ?_
  exact ⟨_, _, _, oE, by first | exact Kd.R_nil _ _ _ _ _ | exact Kd.N_nil _ _ _ _ _ | exact Kd.V_nil _ _ _ _ _ | exact Kd.Q_nil _ _ _ _ _ | exact Kd.S_nil _ _ _ _ _, by first | exact Kd.R_nil _ _ _ _ _ | exact Kd.N_nil _ _ _ _ _ | exact Kd.V_nil _ _ _ _ _ | exact Kd.Q_nil _ _ _ _ _ | exact Kd.S_nil _ _ _ _ _, by first | exact Kd.R_nil _ _ _ _ _ | exact Kd.N_nil _ _ _ _ _ | exact Kd.V_nil _ _ _ _ _ | exact Kd.Q_nil _ _ _ _ _ | exact Kd.S_nil _ _ _ _ _, oB⟩
 ·replace H := itD H
  rcases H with ⟨c11b0, H⟩ | ⟨c11b0, H⟩
  ·replace H := itD H
   rcases H with ⟨c12b0, H⟩ | ⟨c12b0, H⟩
   ·replace H := bA H
    obtain ⟨⟨t176, t177, t178, t179, t182, t185⟩, A13, H⟩ := H
    try dsimp only at H
    simp only [Option.some.injEq, Prod.mk.injEq] at H
    obtain ⟨rfl, rfl, rfl, rfl, rfl, rfl, rfl⟩ := H
    go_enter Tryz.func42, Tryz.ntmps42
    go_wp2_with (first | ((with_reducible refine gate_dst (N := 2) rfl ?_); refine bx_ 2 #[.slice A0_0 l0_0.length c0_0, .int .i64 a0_1] 26 ?_; intro gb172 hg w14 hbox hb; have BK172 := Aside0.mk (hbox); have GW172 := gs_ hg; replace HB := Aside0.mk (below_step oB hb); clear hb hbox hg) | ((with_reducible refine gate_dst (N := 4) rfl ?_); refine bx_ 4 #[.int .i64 0, .int .i64 0, .int .i64 0, .slice none 0 0, .slice none 0 0, .slice none 0 0] 51 ?_; intro gb173 hg w15 hbox hb; have BK173 := Aside0.mk (hbox); have GW173 := gs_ hg; have NB172_173 := nl_ hg BK172; have NB173_172 := nr_ hg BK172; replace BK172 := kb_ BK172 hb; replace HB := Aside0.mk (below_step oB hb); clear hb hbox hg; have hnb16 := NB172_173.out; have hnc16 := NB173_172.out; obtain ⟨⟨_, _⟩, _, _⟩ := z2 BK172) | ((with_reducible refine gate_callee (f := 41) rfl ?_); refine gl_ 9 Tryz.func41 (impl_placeOf.calls k _ _ l0_0 a0_1 a1 t174 _ (kC HR0_0) HC0_0.out A3.out) ?_; rintro e w18 ⟨rfl, hb⟩; refine ⟨_, rfl, ?_⟩; replace BK172 := kb_ BK172 hb; replace BK173 := kb_ BK173 hb; replace HB := Aside0.mk (below_step oB hb); obtain ⟨⟨_, _⟩, _, _⟩ := z2 BK172; have p175 : (0 ≤ (t174 : Int)) = True := oT; have q175 : (t174 < (l0_0.length : Int)) = True := oT; obtain ⟨ad175, A175_3, c175_3, A175_4, c175_4, A175_5, c175_5, e175, hx175_0, hx175_1, hx175_2, hx175_3, hx175_4, hx175_5, hl175_3, hi175_3, hl175_4, hi175_4, hl175_5, hi175_5⟩ := at_T51 HR0_0.out t174 oa oa; cases e175; replace hx175_0 := cB HB hx175_0; replace hx175_1 := cB HB hx175_1; replace hx175_2 := cB HB hx175_2; replace hx175_3 := cB HB hx175_3; replace hx175_4 := cB HB hx175_4; replace hx175_5 := cB HB hx175_5; have HR175_3 := Aside0.mk hi175_3; have HC175_3 := Aside0.mk hl175_3; clear hi175_3 hl175_3; have HR175_4 := Aside0.mk hi175_4; have HC175_4 := Aside0.mk hl175_4; clear hi175_4 hl175_4; have HR175_5 := Aside0.mk hi175_5; have HC175_5 := Aside0.mk hl175_5; clear hi175_5 hl175_5) | ((with_reducible refine gate_callee (f := 71) rfl ?_); refine gl_ 18 Tryz.func71 (impl_copyInode.calls ((rd_T51 l0_0 t174).f0) ((rd_T51 l0_0 t174).f1) ((rd_T51 l0_0 t174).f2) _ _ ((rd_T51 l0_0 t174).f3) _ _ ((rd_T51 l0_0 t174).f4) _ _ ((rd_T51 l0_0 t174).f5) t176 t177 t178 t179 t182 t185 _ (kC HR175_3) HC175_3.out (kC HR175_4) HC175_4.out (kC HR175_5) HC175_5.out A13.out) ?_; rintro e w20 ⟨v180, v183, v186, rfl, ho0, ho1, ho2, hb⟩; refine ⟨_, rfl, ?_⟩; have HO181 := Aside0.mk (Kd.R_lower ho0 (below_size oB)); have HO184 := Aside0.mk (Kd.R_lower ho1 (below_size oB)); have HO187 := Aside0.mk (Kd.R_lower ho2 (below_size oB)); replace BK172 := kb_ BK172 hb; replace BK173 := kb_ BK173 hb; replace HB := Aside0.mk (below_step oB hb); (try clear ho1); (try clear ho2); obtain ⟨⟨_, _, _, _, _, _⟩, _, _, _, _, _, _⟩ := z6 BK173; obtain ⟨Ao22, co22, eo22⟩ := Kd.R_slice HO181.out; subst eo22; obtain ⟨Ao23, co23, eo23⟩ := Kd.R_slice HO184.out; subst eo23; obtain ⟨Ao24, co24, eo24⟩ := Kd.R_slice HO187.out; subst eo24))
    refine bodyPost_ret (results_ct rfl _ _ gb173 51 #[.int .i64 t176, .int .i64 t177, .int .i64 t178, .slice Ao22 t179.length co22, .slice Ao23 t182.length co23, .slice Ao24 t185.length co24] (0, 0) _ rfl (oP BK173) Tryz.underlying51 rfl (by kernel_rfl)) rfl ?_
    exact ⟨_, _, _, oE, by (with_reducible repeat (first | apply Kd.R_alloc | apply Kd.R_drewN | apply Kd.R_drew)); exact Kd.R_mono (Kd.R_far (p := ⟨gb173, 5, none⟩) (Kd.R_far (p := ⟨gb173, 4, none⟩) (Kd.R_far (p := ⟨gb173, 3, none⟩) (Kd.R_far (p := ⟨gb173, 2, none⟩) (Kd.R_far (p := ⟨gb173, 1, none⟩) (Kd.R_far (p := ⟨gb173, 0, none⟩) (Kd.R_types HO181.out BK173.out (by decide)) (fun _ hk => hk.2) (.int .i64 t176)) (fun _ hk => hk.2) (.int .i64 t177)) (fun _ hk => hk.2) (.int .i64 t178)) (fun _ hk => hk.2) (.slice Ao22 t179.length co22)) (fun _ hk => hk.2) (.slice Ao23 t182.length co23)) (fun _ hk => hk.2) (.slice Ao24 t185.length co24)) (fun _ hk => trivial), by (with_reducible repeat (first | apply Kd.R_alloc | apply Kd.R_drewN | apply Kd.R_drew)); exact Kd.R_mono (Kd.R_far (p := ⟨gb173, 5, none⟩) (Kd.R_far (p := ⟨gb173, 4, none⟩) (Kd.R_far (p := ⟨gb173, 3, none⟩) (Kd.R_far (p := ⟨gb173, 2, none⟩) (Kd.R_far (p := ⟨gb173, 1, none⟩) (Kd.R_far (p := ⟨gb173, 0, none⟩) (Kd.R_types HO184.out BK173.out (by decide)) (fun _ hk => hk.2) (.int .i64 t176)) (fun _ hk => hk.2) (.int .i64 t177)) (fun _ hk => hk.2) (.int .i64 t178)) (fun _ hk => hk.2) (.slice Ao22 t179.length co22)) (fun _ hk => hk.2) (.slice Ao23 t182.length co23)) (fun _ hk => hk.2) (.slice Ao24 t185.length co24)) (fun _ hk => trivial), by (with_reducible repeat (first | apply Kd.R_alloc | apply Kd.R_drewN | apply Kd.R_drew)); exact Kd.R_mono (Kd.R_far (p := ⟨gb173, 5, none⟩) (Kd.R_far (p := ⟨gb173, 4, none⟩) (Kd.R_far (p := ⟨gb173, 3, none⟩) (Kd.R_far (p := ⟨gb173, 2, none⟩) (Kd.R_far (p := ⟨gb173, 1, none⟩) (Kd.R_far (p := ⟨gb173, 0, none⟩) (Kd.R_types HO187.out BK173.out (by decide)) (fun _ hk => hk.2) (.int .i64 t176)) (fun _ hk => hk.2) (.int .i64 t177)) (fun _ hk => hk.2) (.int .i64 t178)) (fun _ hk => hk.2) (.slice Ao22 t179.length co22)) (fun _ hk => hk.2) (.slice Ao23 t182.length co23)) (fun _ hk => hk.2) (.slice Ao24 t185.length co24)) (fun _ hk => trivial), oB⟩
   ·cases H
  ·cases H

end Go.Proofs.YtkcfmbggdkkfeaaGreatDoor.P
