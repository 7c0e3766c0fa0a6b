-- By this session's own program (wip/myprint.py) out of the translation; Lean checks it.
import Derived.Test.YtkcfmbggdkkfeaaGreatDoorPx0
import Derived.Test.YtkcfmbggdkkfeaaGreatDoorPx1
namespace Go.Proofs.YtkcfmbggdkkfeaaGreatDoor.P
open Go.RowKit Go.Proofs.YtkcfmbggdkkfeaaGreatDoorW.PrintWords Go.Proofs.YtkcfmbggdkkfeaaGreatDoorW.PrintLast Go.Proofs.YtkcfmbggdkkfeaaGreatDoorW.PrintMore
attribute [local go_sem] max2_int min2_int max_two min_two max_three min_three max_four min_four   -- for this text's walks alone
set_option linter.unusedVariables false
set_option linter.unusedSimpArgs false

/-! ### impl_copyTab: function 45 -/
def impl_copyTab.l0 : Nat → List (S51) → Int → Int → List (S51) → Int → Option ((List (S51)) × Int)
 | 0, _, _, _, _, _ => none
 | k + 1, x10, x11, x12, x138000, x138001 => if x12 < x11 then (if 0 ≤ x12 then (if x12 < (x10.length : Int) then ((impl_copyInode.f ((rd_T51 x10 x12).f0) ((rd_T51 x10 x12).f1) ((rd_T51 x10 x12).f2) ((rd_T51 x10 x12).f3) ((rd_T51 x10 x12).f4) ((rd_T51 x10 x12).f5)).bind fun bt140 => (if x138000.length < 1466015503701 then (impl_copyTab.l0 k x10 x11 (wrap64 (x12 + 1)) (x138000 ++ [(⟨bt140.1, bt140.2.1, bt140.2.2.1, bt140.2.2.2.1, bt140.2.2.2.2.1, bt140.2.2.2.2.2⟩ : S51)]) x138001) else (none))) else (none)) else (none)) else (some (x138000, x138001))
def impl_copyTab.f (k : Nat) (l0_0 : List (S51)) (a0_1 : Int) : Option ((List (S51)) × Int) := impl_copyTab.l0 k l0_0 (l0_0.length : Int) 0 ([] : List (S51)) a0_1
def impl_copyTab.T5 : Bool × List (List Nat × List Nat) := (true, [([], []), ([0], [0]), ([], []), ([2], [2]), ([3], [3]), ([1, 4, 3], [1, 4]), ([0, 1, 2, 3, 4, 5], []), ([6, 5, 5, 0, 1, 2, 3, 4, 5], [5, 6])])
def impl_copyTab.B5 : List Nat := [0, 1, 0, 4, 12, 31, 63, 127]
theorem impl_copyTab.tab5 : rtab .any (opsOf Tryz.f45 5) = impl_copyTab.T5 := by kernel_rfl
theorem impl_copyTab.bits5 : waitsOk impl_copyTab.T5.2 impl_copyTab.B5 = true := by kernel_rfl
set_option maxHeartbeats 8000000 in
set_option maxRecDepth 100000 in
theorem impl_copyTab.calls (k : Nat) (A0_0 : Option Addr) (c0_0 : Nat) (l0_0 : List (S51)) (a0_1 : Int) (r1 : List (S51)) (r2 : Int) (w : World) (hr0_0 : Kd.C k51 w A0_0 l0_0.length l0_0) (hc0_0 : l0_0.length ≤ c0_0) (h : impl_copyTab.f k l0_0 a0_1 = some (r1, r2)) :
  Calls Tryz.prog 45 #[.agg #[.slice A0_0 l0_0.length c0_0, .int .i64 a0_1]] w fun e w' => ∃ v0_ : Value, e = .returned (.agg #[v0_, .int .i64 r2]) ∧ Kd.S k51 51 w' w.heap.size (fun _ => True) v0_ r1 ∧ Below w.heap.size w w' := by
 have hu26 := Tryz.underlying26
 have hu51 := Tryz.underlying51
 have HR0_0 := Aside0.mk hr0_0
 have HC0_0 := Aside0.mk hc0_0
 clear hr0_0 hc0_0
 have HB := Aside0.mk (Below.refl w.heap.size w)
 unfold impl_copyTab.f at h
 have H := h
 clear h
 have H' := Aside0.mk H
 clear H
 go_enter Tryz.func45, Tryz.ntmps45
 go_wp2_with (first | ((with_reducible refine gate_dst (N := 1) rfl ?_); refine bx_ 1 #[.slice A0_0 l0_0.length c0_0, .int .i64 a0_1] 26 ?_; intro gb135 hg w2 hbox hb; have BK135 := Aside0.mk (hbox); have GW135 := gs_ hg; replace HB := Aside0.mk (below_step oB hb); clear hb hbox hg) | ((with_reducible refine gate_dst (N := 2) rfl ?_); refine bx_ 2 #[.slice none 0 0, .int .i64 0] 26 ?_; intro gb136 hg w3 hbox hb; have BK136 := Aside0.mk (hbox); have GW136 := gs_ hg; have NB135_136 := nl_ hg BK135; have NB136_135 := nr_ hg BK135; replace BK135 := kb_ BK135 hb; replace HB := Aside0.mk (below_step oB hb); clear hb hbox hg; have hnb4 := NB135_136.out; have hnc4 := NB136_135.out; obtain ⟨⟨_, _⟩, _, _⟩ := z2 BK135) | ((with_reducible refine gate_dst (N := 3) rfl ?_); refine bx_ 3 #[.slice none 0 0, .int .i64 0] 26 ?_; intro gb137 hg w6 hbox hb; have BK137 := Aside0.mk (hbox); have GW137 := gs_ hg; have NB135_137 := nl_ hg BK135; have NB137_135 := nr_ hg BK135; have NB136_137 := nl_ hg BK136; have NB137_136 := nr_ hg BK136; replace BK135 := kb_ BK135 hb; replace BK136 := kb_ BK136 hb; replace HB := Aside0.mk (below_step oB hb); clear hb hbox hg; have hnb7 := NB137_135.out; have hnc7 := NB135_137.out; have hnb8 := NB137_136.out; have hnc8 := NB136_137.out; obtain ⟨⟨_, _⟩, _, _⟩ := z2 BK137; obtain ⟨⟨_, _⟩, _, _⟩ := z2 BK135))
 go_loopg [12] k (fun kq v12 w' => ∃ (x12_1 : Int) (x138000_1 : List (S51)) (u138000 : Value), v12 = .int .i64 x12_1 ∧ Aside0 (impl_copyTab.l0 kq l0_0 (l0_0.length : Int) x12_1 x138000_1 a0_1 = some (r1, r2)) ∧ Aside0 (kq ≤ k) ∧ Aside0 (Kd.S k51 51 w' w.heap.size (fun _ => True) u138000 x138000_1) ∧ Aside0 (w'.heap[gb135]? = some (.cells #[(.slice A0_0 l0_0.length c0_0), .int .i64 a0_1] 26 (0, 0))) ∧ Aside0 (w'.heap[gb136]? = some (.cells #[(.slice none 0 0), .int .i64 0] 26 (0, 0))) ∧ Aside0 (w'.heap[gb137]? = some (.cells #[u138000, .int .i64 a0_1] 26 (0, 0))) ∧ Aside0 (Below w.heap.size w w'))
 case atStart => exact ⟨(0), (([] : List (S51))), (.slice none 0 0), oS, H', ⟨Nat.le_refl _⟩, ⟨by first | exact Kd.S_nil _ _ _ _ _ | exact Kd.N_nil _ _ _ _ _ | exact Kd.V_nil _ _ _ _ _ | exact Kd.Q_nil _ _ _ _ _ | exact Kd.R_nil _ _ _ _ _⟩, ⟨oF BK135⟩, ⟨oF BK136⟩, ⟨oP BK137⟩, ⟨oB⟩⟩
 case round =>
  clear H'
  obtain ⟨x12_1, x138000_1, u138000, rfl, HA, HK1, HO_138000, BK135, BK136, BK137, HB⟩ := hrel
  cases gk with
  | zero => exact absurd HA.out (by simp [impl_copyTab.l0])
  | succ k1 =>
   have H := HA.out
   clear HA
   simp only [impl_copyTab.l0] at H
   replace H := itD H
   rcases H with ⟨c11b0, H⟩ | ⟨c11b0, H⟩
   ·replace H := itD H
    rcases H with ⟨c12b0, H⟩ | ⟨c12b0, H⟩
    ·replace H := itD H
     rcases H with ⟨c13b0, H⟩ | ⟨c13b0, H⟩
     ·replace H := bA H
      obtain ⟨⟨t140, t141, t142, t143, t146, t149⟩, A14, H⟩ := H
      try dsimp only at H
      by_cases c15 : x138000_1.length < 1466015503701
      ·rw [if_pos c15] at H
       have LMc15 := Aside0.mk c15
       clear c15
       obtain ⟨y152, hy152⟩ : ∃ y_ : List (S51), y_ = (x138000_1 ++ [(⟨t140, t141, t142, t143, t146, t149⟩ : S51)]) := ⟨_, rfl⟩
       replace H : (impl_copyTab.l0 k1 l0_0 (l0_0.length : Int) (wrap64 (x12_1 + 1)) y152 a0_1) = some (r1, r2) := by first | (rw [hy152]; with_reducible exact H) | (have H2_ := (Option.bind_some _ _).symm.trans H; rw [hy152]; with_reducible exact H2_) | (have H2_ := (Option.bind_some _ _).symm.trans H; with_reducible exact H2_) | with_reducible exact H | (rw [hy152]; exact H) | exact H
       have Ny152 := Aside0.mk hy152
       clear hy152
       have H' := Aside0.mk H
       clear H
       have p138 : (0 ≤ (x12_1 : Int)) = True := oT
       have q138 : (x12_1 < (l0_0.length : Int)) = True := oT
       obtain ⟨ad138, A138_3, c138_3, A138_4, c138_4, A138_5, c138_5, e138, hx138_0, hx138_1, hx138_2, hx138_3, hx138_4, hx138_5, hl138_3, hi138_3, hl138_4, hi138_4, hl138_5, hi138_5⟩ := at_T51 HR0_0.out x12_1 oa oa
       cases e138
       replace hx138_0 := cB HB hx138_0
       replace hx138_1 := cB HB hx138_1
       replace hx138_2 := cB HB hx138_2
       replace hx138_3 := cB HB hx138_3
       replace hx138_4 := cB HB hx138_4
       replace hx138_5 := cB HB hx138_5
       have HR138_3 := Aside0.mk hi138_3
       have HC138_3 := Aside0.mk hl138_3
       clear hi138_3 hl138_3
       have HR138_4 := Aside0.mk hi138_4
       have HC138_4 := Aside0.mk hl138_4
       clear hi138_4 hl138_4
       have HR138_5 := Aside0.mk hi138_5
       have HC138_5 := Aside0.mk hl138_5
       clear hi138_5 hl138_5
       try go_wp2_with (first | ((with_reducible refine gate_dst (N := 5) rfl ?_); refine bx_ 5 #[.int .i64 0, .int .i64 0, .int .i64 0, .slice none 0 0, .slice none 0 0, .slice none 0 0] 51 ?_; intro gb139 hg w16 hbox hb; have BK139 := Aside0.mk (hbox); have GW139 := gs_ hg; have NB135_139 := nl_ hg BK135; have NB139_135 := nr_ hg BK135; have NB136_139 := nl_ hg BK136; have NB139_136 := nr_ hg BK136; have NB137_139 := nl_ hg BK137; have NB139_137 := nr_ hg BK137; replace HO_138000 := Aside0.mk (Kd.S_below (Kd.S_elderB (nS0 HO_138000) gb139 (Nat.le_of_eq hg.symm)) hb); replace BK135 := kb_ BK135 hb; replace BK136 := kb_ BK136 hb; replace BK137 := kb_ BK137 hb; replace HB := Aside0.mk (below_step oB hb); clear hb hbox hg; have hnb17 := NB139_135.out; have hnc17 := NB135_139.out; have hnb18 := NB139_136.out; have hnc18 := NB136_139.out; have hnb19 := NB139_137.out; have hnc19 := NB137_139.out; obtain ⟨⟨_, _, _, _, _, _⟩, _, _, _, _, _, _⟩ := z6 BK139))
       have n0_ : Aside0 (Kd.S k51 51 ((((((w16.setCell ⟨gb139, 0, none⟩ (.int .i64 ((rd_T51 l0_0 x12_1).f0))).setCell ⟨gb139, 1, none⟩ (.int .i64 ((rd_T51 l0_0 x12_1).f1))).setCell ⟨gb139, 2, none⟩ (.int .i64 ((rd_T51 l0_0 x12_1).f2))).setCell ⟨gb139, 3, none⟩ (.slice A138_3 ((rd_T51 l0_0 x12_1).f3).length c138_3)).setCell ⟨gb139, 4, none⟩ (.slice A138_4 ((rd_T51 l0_0 x12_1).f4).length c138_4)).setCell ⟨gb139, 5, none⟩ (.slice A138_5 ((rd_T51 l0_0 x12_1).f5).length c138_5)) w.heap.size (fun k_ => k_ ≠ gb139) u138000 x138000_1) := ⟨by (with_reducible repeat (first | apply Kd.S_alloc | apply Kd.S_drewN | apply Kd.S_drew)); exact Kd.S_mono (Kd.S_far (p := ⟨gb139, 5, none⟩) (Kd.S_far (p := ⟨gb139, 4, none⟩) (Kd.S_far (p := ⟨gb139, 3, none⟩) (Kd.S_far (p := ⟨gb139, 2, none⟩) (Kd.S_far (p := ⟨gb139, 1, none⟩) (Kd.S_far (p := ⟨gb139, 0, none⟩) (Kd.S_mono HO_138000.out (fun k_ hk => (⟨hk, hk.2⟩ : _ ∧ k_ ≠ gb139))) (fun _ hk => hk.2) (.int .i64 ((rd_T51 l0_0 x12_1).f0))) (fun _ hk => hk.2) (.int .i64 ((rd_T51 l0_0 x12_1).f1))) (fun _ hk => hk.2) (.int .i64 ((rd_T51 l0_0 x12_1).f2))) (fun _ hk => hk.2) (.slice A138_3 ((rd_T51 l0_0 x12_1).f3).length c138_3)) (fun _ hk => hk.2) (.slice A138_4 ((rd_T51 l0_0 x12_1).f4).length c138_4)) (fun _ hk => hk.2) (.slice A138_5 ((rd_T51 l0_0 x12_1).f5).length c138_5)) (fun _ hk => hk.1.2)⟩
       have n1_ : Aside0 (((((((w16.setCell ⟨gb139, 0, none⟩ (.int .i64 ((rd_T51 l0_0 x12_1).f0))).setCell ⟨gb139, 1, none⟩ (.int .i64 ((rd_T51 l0_0 x12_1).f1))).setCell ⟨gb139, 2, none⟩ (.int .i64 ((rd_T51 l0_0 x12_1).f2))).setCell ⟨gb139, 3, none⟩ (.slice A138_3 ((rd_T51 l0_0 x12_1).f3).length c138_3)).setCell ⟨gb139, 4, none⟩ (.slice A138_4 ((rd_T51 l0_0 x12_1).f4).length c138_4)).setCell ⟨gb139, 5, none⟩ (.slice A138_5 ((rd_T51 l0_0 x12_1).f5).length c138_5)).heap[gb135]? = some (.cells #[.slice (some ad138) l0_0.length c0_0, .int .i64 a0_1] 26 (0, 0))) := ⟨oF BK135⟩
       have n2_ : Aside0 (((((((w16.setCell ⟨gb139, 0, none⟩ (.int .i64 ((rd_T51 l0_0 x12_1).f0))).setCell ⟨gb139, 1, none⟩ (.int .i64 ((rd_T51 l0_0 x12_1).f1))).setCell ⟨gb139, 2, none⟩ (.int .i64 ((rd_T51 l0_0 x12_1).f2))).setCell ⟨gb139, 3, none⟩ (.slice A138_3 ((rd_T51 l0_0 x12_1).f3).length c138_3)).setCell ⟨gb139, 4, none⟩ (.slice A138_4 ((rd_T51 l0_0 x12_1).f4).length c138_4)).setCell ⟨gb139, 5, none⟩ (.slice A138_5 ((rd_T51 l0_0 x12_1).f5).length c138_5)).heap[gb136]? = some (.cells #[.slice none 0 0, .int .i64 0] 26 (0, 0))) := ⟨oF BK136⟩
       have n3_ : Aside0 (((((((w16.setCell ⟨gb139, 0, none⟩ (.int .i64 ((rd_T51 l0_0 x12_1).f0))).setCell ⟨gb139, 1, none⟩ (.int .i64 ((rd_T51 l0_0 x12_1).f1))).setCell ⟨gb139, 2, none⟩ (.int .i64 ((rd_T51 l0_0 x12_1).f2))).setCell ⟨gb139, 3, none⟩ (.slice A138_3 ((rd_T51 l0_0 x12_1).f3).length c138_3)).setCell ⟨gb139, 4, none⟩ (.slice A138_4 ((rd_T51 l0_0 x12_1).f4).length c138_4)).setCell ⟨gb139, 5, none⟩ (.slice A138_5 ((rd_T51 l0_0 x12_1).f5).length c138_5)).heap[gb137]? = some (.cells #[u138000, .int .i64 a0_1] 26 (0, 0))) := ⟨oF BK137⟩
       have n4_ : Aside0 (((((((w16.setCell ⟨gb139, 0, none⟩ (.int .i64 ((rd_T51 l0_0 x12_1).f0))).setCell ⟨gb139, 1, none⟩ (.int .i64 ((rd_T51 l0_0 x12_1).f1))).setCell ⟨gb139, 2, none⟩ (.int .i64 ((rd_T51 l0_0 x12_1).f2))).setCell ⟨gb139, 3, none⟩ (.slice A138_3 ((rd_T51 l0_0 x12_1).f3).length c138_3)).setCell ⟨gb139, 4, none⟩ (.slice A138_4 ((rd_T51 l0_0 x12_1).f4).length c138_4)).setCell ⟨gb139, 5, none⟩ (.slice A138_5 ((rd_T51 l0_0 x12_1).f5).length c138_5)).heap[gb139]? = some (.cells #[.int .i64 ((rd_T51 l0_0 x12_1).f0), .int .i64 ((rd_T51 l0_0 x12_1).f1), .int .i64 ((rd_T51 l0_0 x12_1).f2), .slice A138_3 ((rd_T51 l0_0 x12_1).f3).length c138_3, .slice A138_4 ((rd_T51 l0_0 x12_1).f4).length c138_4, .slice A138_5 ((rd_T51 l0_0 x12_1).f5).length c138_5] 51 (0, 0))) := ⟨oP BK139⟩
       have n5_ : Aside0 (Below w.heap.size w ((((((w16.setCell ⟨gb139, 0, none⟩ (.int .i64 ((rd_T51 l0_0 x12_1).f0))).setCell ⟨gb139, 1, none⟩ (.int .i64 ((rd_T51 l0_0 x12_1).f1))).setCell ⟨gb139, 2, none⟩ (.int .i64 ((rd_T51 l0_0 x12_1).f2))).setCell ⟨gb139, 3, none⟩ (.slice A138_3 ((rd_T51 l0_0 x12_1).f3).length c138_3)).setCell ⟨gb139, 4, none⟩ (.slice A138_4 ((rd_T51 l0_0 x12_1).f4).length c138_4)).setCell ⟨gb139, 5, none⟩ (.slice A138_5 ((rd_T51 l0_0 x12_1).f5).length c138_5))) := ⟨oB⟩
       (try clear HO_138000)
       (try clear BK135)
       (try clear BK136)
       (try clear BK137)
       (try clear BK139)
       (try clear HB)
       generalize ((((((w16.setCell ⟨gb139, 0, none⟩ (.int .i64 ((rd_T51 l0_0 x12_1).f0))).setCell ⟨gb139, 1, none⟩ (.int .i64 ((rd_T51 l0_0 x12_1).f1))).setCell ⟨gb139, 2, none⟩ (.int .i64 ((rd_T51 l0_0 x12_1).f2))).setCell ⟨gb139, 3, none⟩ (.slice A138_3 ((rd_T51 l0_0 x12_1).f3).length c138_3)).setCell ⟨gb139, 4, none⟩ (.slice A138_4 ((rd_T51 l0_0 x12_1).f4).length c138_4)).setCell ⟨gb139, 5, none⟩ (.slice A138_5 ((rd_T51 l0_0 x12_1).f5).length c138_5)) = w21 at n0_ n1_ n2_ n3_ n4_ n5_ ⊢
       have HO_138000 := n0_
       have BK135 := n1_
       have BK136 := n2_
       have BK137 := n3_
       have BK139 := n4_
       have HB := n5_
       clear n0_ n1_ n2_ n3_ n4_ n5_
       replace HO_138000 := Aside0.mk (Kd.S_drew HO_138000.out)
       replace BK135 := Aside0.mk (blk_drew BK135.out)
       replace BK136 := Aside0.mk (blk_drew BK136.out)
       replace BK137 := Aside0.mk (blk_drew BK137.out)
       replace BK139 := Aside0.mk (blk_drew BK139.out)
       replace HB := Aside0.mk (below_drew1 HB.out)
       refine start_ (n := 8) (S := fun w' => w'.cell? ⟨gb137, 0, none⟩ = some (u138000) ∧ w'.cell? ⟨gb137, 1, none⟩ = some (.int .i64 a0_1) ∧ w'.cell? ⟨gb139, 0, none⟩ = some (.int .i64 ((rd_T51 l0_0 x12_1).f0)) ∧ w'.cell? ⟨gb139, 1, none⟩ = some (.int .i64 ((rd_T51 l0_0 x12_1).f1)) ∧ w'.cell? ⟨gb139, 2, none⟩ = some (.int .i64 ((rd_T51 l0_0 x12_1).f2)) ∧ w'.cell? ⟨gb139, 3, none⟩ = some (.slice A138_3 ((rd_T51 l0_0 x12_1).f3).length c138_3) ∧ w'.cell? ⟨gb139, 4, none⟩ = some (.slice A138_4 ((rd_T51 l0_0 x12_1).f4).length c138_4) ∧ w'.cell? ⟨gb139, 5, none⟩ = some (.slice A138_5 ((rd_T51 l0_0 x12_1).f5).length c138_5)) (ds := [7]) (lb 8 0) (by kernel_rfl) rfl rfl oH (fun hHeld => ?_); refine with_tabW impl_copyTab.tab5 impl_copyTab.bits5 (fun HT_ HW_ => ?_)
       generalize w21.drew = w22 at HO_138000 BK135 BK136 BK137 BK139 HB hHeld ⊢
       refine pu_ 0 16 HT_ ?_
       refine ta_ 1 17 HT_ HW_ hHeld ?_
       refine ta_ 2 18 HT_ HW_ hHeld ?_
       refine on_ 3 19 HT_ (fun K hK => ?_)
       refine gr_ 19 Tryz.func71 (impl_copyInode.calls ((rd_T51 l0_0 x12_1).f0) ((rd_T51 l0_0 x12_1).f1) ((rd_T51 l0_0 x12_1).f2) _ _ ((rd_T51 l0_0 x12_1).f3) _ _ ((rd_T51 l0_0 x12_1).f4) _ _ ((rd_T51 l0_0 x12_1).f5) t140 t141 t142 t143 t146 t149 _ (kC HR138_3) HC138_3.out (kC HR138_4) HC138_4.out (kC HR138_5) HC138_5.out A14.out) ?_
       rintro e w23 ⟨v144, v147, v150, rfl, ho0, ho1, ho2, hb⟩
       refine ⟨_, rfl, ?_⟩
       have HO145 := Aside0.mk (Kd.R_lower ho0 (below_size oB))
       have HO148 := Aside0.mk (Kd.R_lower ho1 (below_size oB))
       have HO151 := Aside0.mk (Kd.R_lower ho2 (below_size oB))
       replace HO_138000 := tdS3 (olS0 HO_138000 hb) (Kd.R_base ho0) (Kd.R_base ho1) (Kd.R_base ho2)
       replace BK135 := kb_ BK135 hb
       replace BK136 := kb_ BK136 hb
       replace BK137 := kb_ BK137 hb
       replace BK139 := kb_ BK139 hb
       replace HB := Aside0.mk (below_step oB hb)
       (try clear ho1)
       (try clear ho2)
       obtain ⟨Ao25, co25, eo25⟩ := Kd.R_slice HO145.out
       (first | subst eo25 | (injection eo25 with f1_ f2_ f3_; have f4_ := f1_.symm; have f5_ := f3_.symm; clear f1_ f2_ f3_; subst f4_; subst f5_))
       obtain ⟨Ao26, co26, eo26⟩ := Kd.R_slice HO148.out
       (first | subst eo26 | (injection eo26 with f1_ f2_ f3_; have f4_ := f1_.symm; have f5_ := f3_.symm; clear f1_ f2_ f3_; subst f4_; subst f5_))
       obtain ⟨Ao27, co27, eo27⟩ := Kd.R_slice HO151.out
       (first | subst eo27 | (injection eo27 with f1_ f2_ f3_; have f4_ := f1_.symm; have f5_ := f3_.symm; clear f1_ f2_ f3_; subst f4_; subst f5_))
       refine hk_ hK 19 oH (fun hHeld => ?_)
       clear hK K
       refine on_ 4 20 HT_ (fun K hK => ?_)
       refine value_ (w1 := ?_) (v := ?_) (by rfl) rfl ?_ ?_
       rotate_left 2
       ·go_simp
        constructor
        ·rfl
        ·rfl
       refine hk_ hK 20 ⟨(blk_cell (blk_alloc BK137.out _) 0).trans rfl, (blk_cell (blk_alloc BK137.out _) 1).trans rfl, (blk_cell (blk_alloc BK139.out _) 0).trans rfl, (blk_cell (blk_alloc BK139.out _) 1).trans rfl, (blk_cell (blk_alloc BK139.out _) 2).trans rfl, (blk_cell (blk_alloc BK139.out _) 3).trans rfl, (blk_cell (blk_alloc BK139.out _) 4).trans rfl, (blk_cell (blk_alloc BK139.out _) 5).trans rfl⟩ (fun hHeld => ?_)
       clear hK K
       refine on_ 5 21 HT_ (fun K hK => ?_)
       refine Kd.S_append_step k51 (w0 := w) w.heap.size (by rfl) (.tmp 17) (.tmp 20) 24 51 (.agg #[(.int .i64 0), (.int .i64 0), (.int .i64 0), (.slice none 0 0), (.slice none 0 0), (.slice none 0 0)]) 96 rfl Tryz.underlying24 info51 rfl (by decide) (by omega) u138000 x138000_1 (⟨t140, t141, t142, t143, t146, t149⟩ : S51) [.int .i64 t140, .int .i64 t141, .int .i64 t142, .slice Ao25 t143.length co25, .slice Ao26 t146.length co26, .slice Ao27 t149.length co27] (fun k_ => k_ ≠ gb139) (fun k_ => some k_ = (.slice Ao25 t143.length co25 : Value).ownBlock ∨ some k_ = (.slice Ao26 t146.length co26 : Value).ownBlock ∨ some k_ = (.slice Ao27 t149.length co27 : Value).ownBlock) rfl rfl ?aP (fun k_ hk_ => hk_.elim (fun h_ => ((Kd.R_mono (ok' := fun k_ => ((fun k_ => k_ ≠ gb139)) k_ ∧ some k_ ≠ (u138000 : Value).ownBlock) (Kd.R_types (Kd.R_apart' (HO145.out) (Kd.S_typed HO_138000.out) (by decide)) BK139.out (by decide)) (fun k_ hk => ⟨hk.2, hk.1.2⟩))).1 k_ h_.symm) (fun h_ => h_.elim (fun h_ => ((Kd.R_mono (ok' := fun k_ => ((fun k_ => k_ ≠ gb139)) k_ ∧ some k_ ≠ (u138000 : Value).ownBlock) (Kd.R_types (Kd.R_apart' (HO148.out) (Kd.S_typed HO_138000.out) (by decide)) BK139.out (by decide)) (fun k_ hk => ⟨hk.2, hk.1.2⟩))).1 k_ h_.symm) (fun h_ => ((Kd.R_mono (ok' := fun k_ => ((fun k_ => k_ ≠ gb139)) k_ ∧ some k_ ≠ (u138000 : Value).ownBlock) (Kd.R_types (Kd.R_apart' (HO151.out) (Kd.S_typed HO_138000.out) (by decide)) BK139.out (by decide)) (fun k_ hk => ⟨hk.2, hk.1.2⟩))).1 k_ h_.symm))) ?aF ?aO ?aB ?aS ?aL ?_
       (case aP => exact k51_mkM _ _ _ (⟨t140, t141, t142, t143, t146, t149⟩ : S51) (Kd.R_mono (Kd.R_tight rfl (Kd.R_mono (ok' := fun k_ => ((fun k_ => k_ ≠ gb139)) k_ ∧ some k_ ≠ (u138000 : Value).ownBlock) (Kd.R_types (Kd.R_apart' (HO145.out) (Kd.S_typed HO_138000.out) (by decide)) BK139.out (by decide)) (fun k_ hk => ⟨hk.2, hk.1.2⟩))) (fun _ h_ => Or.inl h_)) (Kd.R_mono (Kd.R_tight rfl (Kd.R_mono (ok' := fun k_ => ((fun k_ => k_ ≠ gb139)) k_ ∧ some k_ ≠ (u138000 : Value).ownBlock) (Kd.R_types (Kd.R_apart' (HO148.out) (Kd.S_typed HO_138000.out) (by decide)) BK139.out (by decide)) (fun k_ hk => ⟨hk.2, hk.1.2⟩))) (fun _ h_ => Or.inr (Or.inl h_))) (Kd.R_mono (Kd.R_tight rfl (Kd.R_mono (ok' := fun k_ => ((fun k_ => k_ ≠ gb139)) k_ ∧ some k_ ≠ (u138000 : Value).ownBlock) (Kd.R_types (Kd.R_apart' (HO151.out) (Kd.S_typed HO_138000.out) (by decide)) BK139.out (by decide)) (fun k_ hk => ⟨hk.2, hk.1.2⟩))) (fun _ h_ => Or.inr (Or.inr (h_)))))
       (case aB => exact oB)
       (case aF => exact (fun k_ hk => Kd.freshB (g := gb139) (o := .cells #[.int .i64 ((rd_T51 l0_0 x12_1).f0), .int .i64 ((rd_T51 l0_0 x12_1).f1), .int .i64 ((rd_T51 l0_0 x12_1).f2), .slice A138_3 ((rd_T51 l0_0 x12_1).f3).length c138_3, .slice A138_4 ((rd_T51 l0_0 x12_1).f4).length c138_4, .slice A138_5 ((rd_T51 l0_0 x12_1).f5).length c138_5] 51 (0, 0)) (oF BK139) k_ hk))
       (case aO => exact (by (with_reducible repeat (first | apply Kd.S_alloc | apply Kd.S_drewN | apply Kd.S_drew)); exact Kd.S_mono HO_138000.out (fun k_ hk => ⟨hk.1.1.1, fun e_ => e_.elim (fun h_ => hk.1.1.2 h_) (fun h_ => h_.elim (fun h_ => hk.1.2 h_) (fun h_ => hk.2 h_))⟩)))
       (case aS => exact (below_size oB))
       (case aL => have := LMc15.out; omega)
       intro v153 w24 ho hb hg hat
       rw [← Ny152.out] at ho
       have HO154 := Aside0.mk (ho)
       replace BK135 := Aside0.mk (blk_grown (g := gb135) (o := .cells #[.slice (some ad138) l0_0.length c0_0, .int .i64 a0_1] 26 (0, 0)) (oF BK135) hg (Kd.S_ne HO_138000.out BK135.out (by decide)))
       replace BK136 := Aside0.mk (blk_grown (g := gb136) (o := .cells #[.slice none 0 0, .int .i64 0] 26 (0, 0)) (oF BK136) hg (Kd.S_ne HO_138000.out BK136.out (by decide)))
       replace BK137 := Aside0.mk (blk_grown (g := gb137) (o := .cells #[u138000, .int .i64 a0_1] 26 (0, 0)) (oF BK137) hg (Kd.S_ne HO_138000.out BK137.out (by decide)))
       replace BK139 := Aside0.mk (blk_grown (g := gb139) (o := .cells #[.int .i64 ((rd_T51 l0_0 x12_1).f0), .int .i64 ((rd_T51 l0_0 x12_1).f1), .int .i64 ((rd_T51 l0_0 x12_1).f2), .slice A138_3 ((rd_T51 l0_0 x12_1).f3).length c138_3, .slice A138_4 ((rd_T51 l0_0 x12_1).f4).length c138_4, .slice A138_5 ((rd_T51 l0_0 x12_1).f5).length c138_5] 51 (0, 0)) (oF BK139) hg (Kd.S_away HO_138000.out (fun _ hk => hk.1.1.1)))
       replace HB := Aside0.mk (hb)
       clear HO_138000
       clear HO145
       clear HO148
       clear HO151
       clear ho hb hg hat
       obtain ⟨Ao28, co28, eo28⟩ := Kd.S_slice HO154.out
       (first | subst eo28 | (injection eo28 with f1_ f2_ f3_; have f4_ := f1_.symm; have f5_ := f3_.symm; clear f1_ f2_ f3_; subst f4_; subst f5_))
       refine hk_ hK 21 oH (fun hHeld => ?_)
       clear hK K
       refine pu_ 6 22 HT_ ?_
       refine last_ (i := 7) (N := none) (lb 8 255) rfl rfl (one_of HT_.out (by kernel_rfl)) (by decide) (fun K hK => ?_)
       have hs29 : w24.cell? ⟨gb137, 0, none⟩ = some (u138000) := (blk_cell BK137.out 0).trans rfl
       have hfs29 := blk_frozen BK137.out 0
       have hns29_0 := NB135_137.out
       have hns29_1 := NB136_137.out
       have hns29_3 := NB139_137.out
       have hms29_0 := NB137_135.out
       have hms29_1 := NB137_136.out
       have hms29_3 := NB137_139.out
       refine skip_ (w1 := ?_) (by rfl) rfl ?_ ?_
       rotate_left
       ·go_simp
        rfl
       refine hK.out _ _ ?_
       clear hK K
       refine dn_ HT_ ?_
       try go_wp2
       go_roundg k1
       case measure => have := HK1.out; omega
       case rel => exact ⟨(wrap64 (x12_1 + 1)), (y152), (.slice Ao28 y152.length co28), oS, H', ⟨by have := HK1.out; omega⟩, ⟨by (with_reducible repeat (first | apply Kd.S_alloc | apply Kd.S_drewN | apply Kd.S_drew)); exact Kd.S_mono (Kd.S_far (p := ⟨gb137, 0, none⟩) (Kd.S_types HO154.out BK137.out (by decide)) (fun _ hk => hk.2) (.slice Ao28 y152.length co28)) (fun _ hk => trivial)⟩, ⟨oF BK135⟩, ⟨oF BK136⟩, ⟨oP BK137⟩, ⟨oB⟩⟩
      ·rw [if_neg c15] at H
       exact absurd H (by simp)
     ·cases H
    ·cases H
   ·simp only [Option.some.injEq, Prod.mk.injEq] at H
    obtain ⟨rfl, rfl⟩ := H
    have hnb30 := NB137_135.out
    have hnc30 := NB135_137.out
    have hnb31 := NB137_136.out
    have hnc31 := NB136_137.out
    obtain ⟨⟨_, _⟩, _, _⟩ := z2 BK137
    obtain ⟨Ao33, co33, eo33⟩ := Kd.S_slice HO_138000.out
    subst eo33
    have hnb34 := NB136_135.out
    have hnc34 := NB135_136.out
    obtain ⟨⟨_, _⟩, _, _⟩ := z2 BK136
    go_wp2
    refine bodyPost_ret (results_cell_row rfl _ _ gb136 26 #[.slice Ao33 x138000_1.length co33, .int .i64 a0_1] (0, 0) _ rfl (oP BK136) Tryz.underlying26 rfl (by kernel_rfl)) rfl ?_
    exact ⟨_, oE, by (with_reducible repeat (first | apply Kd.S_alloc | apply Kd.S_drewN | apply Kd.S_drew)); exact Kd.S_mono (Kd.S_far (p := ⟨gb136, 1, none⟩) (Kd.S_far (p := ⟨gb136, 0, none⟩) (Kd.S_types HO_138000.out BK136.out (by decide)) (fun _ hk => hk.2) (.slice Ao33 x138000_1.length co33)) (fun _ hk => hk.2) (.int .i64 a0_1)) (fun _ hk => trivial), oB⟩

/-! ### strings_Split: function 36 -/
def GOk (w : World) : Prop := ∃ m, w.cell? ⟨Tryz.laysM146_ren.g 1, 0, none⟩ = some (.int .i64 m)
theorem gk_ {w W : World} (h : Below w.heap.size w W) (hg : Aside0 (GOk w)) : GOk W := by
 obtain ⟨m, hm⟩ := hg.out
 exact ⟨m, pw_cell_below h hm⟩
def strings_Split.f (a0 a1 : ByteArray) : Option (List ByteArray) := if a0.size < 4294967281 ∧ 1 ≤ a1.size then some (Lib.splitB a1 0 (Lib.countB a0 a1) a0) else none
theorem strings_Split.calls (a0 a1 : ByteArray) (r : List ByteArray) (w : World) (h : strings_Split.f a0 a1 = some r) (hG : GOk w := by exact gk_ oB (by first | (with_reducible assumption) | assumption)) :
  Calls Tryz.prog 36 #[.string a0, .string a1] w fun e w' => ∃ v0_ : Value, e = .returned (v0_) ∧ Kd.R Kd.string 9 w' w.heap.size (fun _ => True) v0_ r ∧ Below w.heap.size w w' := by
 unfold strings_Split.f at h
 split at h
 case isFalse => cases h
 case isTrue hc =>
 obtain rfl := Option.some.inj h
 obtain ⟨m, hm⟩ := hG
 have hl := Lib.splitB_all a1 hc.2 0 _ a0 rfl
 have hle := Lib.countB_le a1 hc.2 a0.size a0 (Nat.le_refl _)
 refine (Any.strings_Split { Tryz.laysM146 with } (by kernel_rfl) a0 a1 m w hc.1 hm hc.2).mono fun e w' ⟨he, hw⟩ => ?_
 subst hw
 refine ⟨_, he, ?_, (Below.refl _ _).alloc (Nat.le_refl _) _⟩
 refine Kd.R_of_own (enc := Value.string) (h1 := fun _ => rfl) ?_ (fun _ _ => trivial)
 have ho := World.ownsRow_lit (base := w.heap.size) (e := 9) (size := 1) w ((Lib.splitB a1 0 (Lib.countB a0 a1) a0).map Value.string).toArray (Lib.countB a0 a1 + 1) (Nat.le_refl _) (by simp only [maxLen]; omega) (by simp [hl])
 rw [← hl] at ho
 rw [show (Tryz.laysM146_ren.t 9) = 9 from rfl, ← hl]
 simpa [encs] using ho
-- NOT PRINTED: function 91 (slices_IndexFunc_string_string)

-- NOT PRINTED: function 64 (slices_ContainsFunc_string_string)

/-! ### impl_namesOk: function 37 -/
theorem namesOk1.calls (k : Nat) (s : ByteArray) (t : Bool) (w : World) (h : impl_NameOk.f k s = some t) :
  Calls Tryz.prog 65 #[.string s] w fun e w' => e = .returned (.bool (!t)) ∧ Below w.heap.size w w' := by
 have hc := impl_NameOk.calls k s t w h
 clear h
 go_enter Tryz.func65, Tryz.ntmps65
 go_wp2_with (go_at_call 52; refine hc.mono ?_; rintro e w1 ⟨rfl, m, rfl⟩)
 go_ret
 exact ⟨rfl, pw_below_drewN (Below.refl _ _) m⟩
/-- The first of the names that is not right, counted from i on. -/
def badR (k : Nat) : List ByteArray → Nat → Option Int
 | [], _ => some (-1)
 | x :: l, i => (impl_NameOk.f k x).bind fun t => if t = true then badR k l (i + 1) else some (i : Int)
set_option maxHeartbeats 1000000 in
set_option maxRecDepth 100000 in
theorem namesIdx.calls (k : Nat) (A0 : Option Addr) (c0 : Nat) (l : List ByteArray) (r : Int) (w : World) (hr : Kd.C Kd.string w A0 l.length l) (hl : l.length ≤ 9223372036854775807) (h : badR k l 0 = some r) :
  Calls Tryz.prog 91 #[.slice A0 l.length c0, .func (.func 65) #[] #[]] w fun e w' => e = .returned (.int .i64 r) ∧ Below w.heap.size w w' := by
 have H0 := Aside0.mk h
 clear h
 go_enter Tryz.func91, Tryz.ntmps91
 go_wp2
 go_loopg [5, 8] l.length (fun gg _ s8 wr => ∃ kk : Nat, kk ≤ l.length ∧ l.length - kk ≤ gg ∧ s8 = .int .i64 kk ∧ Aside0 (Below w.heap.size w wr) ∧ Aside0 (badR k (l.drop kk) kk = some r))
 case atStart => exact ⟨0, Nat.zero_le _, by omega, rfl, ⟨Below.refl _ w⟩, H0⟩
 case round =>
  clear H0
  obtain ⟨kk, hkk, hg, rfl, BW, HA⟩ := hrel
  by_cases hlt : kk < l.length
  ·have hltz : (kk : Int) < (l.length : Int) := by omega
   have h1 := HA.out
   rw [List.drop_eq_getElem_cons hlt, badR] at h1
   replace h1 := bA h1
   obtain ⟨t, A1, h1⟩ := h1
   obtain ⟨ad, c, e0, hcl, hK, hcell⟩ := Kd.C_get (Kd.C_below hr BW.out) ⟨#[]⟩ (kk : Int) (by omega) hltz
   cases e0
   have hx : l.getD (kk : Int).toNat ⟨#[]⟩ = l[kk] := by rw [Int.toNat_natCast, List.getD_eq_getElem?_getD, List.getElem?_eq_getElem hlt]; rfl
   rw [hx] at hK
   obtain rfl : c = [.string l[kk]] := hK
   have h0 : wr.cell? (ad.add kk) = some (.string l[kk]) := by have := hcell 0 _ rfl; simpa [Kd.string, Kd.scalar] using this
   clear hcell hcl hx
   cases t with
   | true =>
    have H' := Aside0.mk h1
    clear h1
    go_wp2_with (go_at_call 65; refine (namesOk1.calls k l[kk] true _ A1.out).mono ?_; rintro e w1 ⟨rfl, hb⟩)
    go_roundg (l.length - (kk + 1))
    case measure => omega
    case rel => exact ⟨kk + 1, by omega, by omega, by go_num, ⟨below_then BW.out BW.out.size hb⟩, H'⟩
   | false =>
    obtain rfl := Option.some.inj h1
    go_wp2_with (go_at_call 65; refine (namesOk1.calls k l[kk] false _ A1.out).mono ?_; rintro e w1 ⟨rfl, hb⟩)
    go_ret
    exact ⟨rfl, below_then BW.out BW.out.size hb⟩
  ·have hltz : ¬ (kk : Int) < (l.length : Int) := by omega
   obtain rfl : kk = l.length := by omega
   have h1 := HA.out
   rw [List.drop_length, badR] at h1
   obtain rfl := Option.some.inj h1
   go_wp2
   go_ret
   exact ⟨rfl, BW.out⟩
theorem namesAny.calls (k : Nat) (A0 : Option Addr) (c0 : Nat) (l : List ByteArray) (r : Int) (w : World) (hr : Kd.C Kd.string w A0 l.length l) (hl : l.length ≤ 9223372036854775807) (h : badR k l 0 = some r) :
  Calls Tryz.prog 64 #[.slice A0 l.length c0, .func (.func 65) #[] #[]] w fun e w' => e = .returned (.bool (decide (0 ≤ r))) ∧ Below w.heap.size w w' := by
 have hc := namesIdx.calls k A0 c0 l r w hr hl h
 clear hr h
 go_enter Tryz.func64, Tryz.ntmps64
 go_wp2_with (go_at_call 91; refine hc.mono ?_; rintro e w1 ⟨rfl, hb⟩)
 go_ret
 exact ⟨rfl, hb⟩
def impl_namesOk.f (k : Nat) (l : List ByteArray) : Option Bool := if l.length ≤ 30 then (badR k l 0).bind fun r => some (!decide (0 ≤ r)) else some false
theorem impl_namesOk.calls (k : Nat) (A0 : Option Addr) (c0 : Nat) (l : List ByteArray) (r : Bool) (w : World) (hr : Kd.C Kd.string w A0 l.length l) (hc0 : l.length ≤ c0) (h : impl_namesOk.f k l = some r) :
  Calls Tryz.prog 37 #[.slice A0 l.length c0] w fun e w' => e = .returned (.bool r) ∧ Below w.heap.size w w' := by
 unfold impl_namesOk.f at h
 split at h
 case isTrue hl =>
  replace h := bA h
  obtain ⟨i, A1, h⟩ := h
  obtain rfl := Option.some.inj h
  have hc := namesAny.calls k A0 c0 l i w hr (by omega) A1.out
  have hlz : decide ((l.length : Int) ≤ 30) = true := decide_eq_true (by omega)
  clear hr h hl hc0
  go_enter Tryz.func37, Tryz.ntmps37
  go_wp2_with (go_at_call 64; refine hc.mono ?_; rintro e w1 ⟨rfl, hb⟩)
  go_ret
  exact ⟨rfl, hb⟩
 case isFalse hl =>
  obtain rfl := Option.some.inj h
  have hlz : decide ((l.length : Int) ≤ 30) = false := decide_eq_false (by omega)
  clear hr h hl hc0
  go_enter Tryz.func37, Tryz.ntmps37
  go_wp2
  go_ret
  exact ⟨rfl, Below.refl _ _⟩
/-! ### impl_SplitPath: function 16 -/
def impl_SplitPath.f (k : Nat) (a0 : ByteArray) : Option (List ByteArray × Bool) := if a0.toList = ([47] : List UInt8) then (some (([] : List ByteArray), true)) else ((strings_Split.f a0 (⟨#[47]⟩ : ByteArray)).bind fun t155 => (if 0 < (t155.length : Int) then (if (rdOf ByteArray.empty t155 0).toList = ([] : List UInt8) then (if (t155.length : Int) < 2 then (some (([] : List ByteArray), false)) else (if 1 ≤ (t155.length : Int) then ((impl_namesOk.f k (t155.drop 1)).bind fun t163 => (if t163 = true then (some ((t155.drop (1 : Int).toNat), true)) else (some (([] : List ByteArray), false)))) else (none))) else (some (([] : List ByteArray), false))) else (none)))
set_option maxHeartbeats 8000000 in
set_option maxRecDepth 100000 in
theorem impl_SplitPath.calls (k : Nat) (a0 : ByteArray) (r1 : List ByteArray) (r2 : Bool) (w : World) (h : impl_SplitPath.f k a0 = some (r1, r2)) (hG : GOk w := by exact gk_ oB (by first | (with_reducible assumption) | assumption)) :
  Calls Tryz.prog 16 #[.string a0] w fun e w' => ∃ v0_ : Value, e = .returned (.tuple #[v0_, .bool r2]) ∧ Kd.Q Kd.string 9 w' w.heap.size (fun _ => True) v0_ r1 ∧ Below w.heap.size w w' := by
 have HG := Aside0.mk hG
 clear hG
 have HB := Aside0.mk (Below.refl w.heap.size w)
 unfold impl_SplitPath.f at h
 have H := h
 clear h
 by_cases c2 : a0.toList = ([47] : List UInt8)
 ·rw [if_pos c2] at H
  have c2b0 : (a0.toList == ([47] : List UInt8)) = true := beq_iff_eq.mpr c2
  have c2b1 : (a0.toList != ([47] : List UInt8)) = false := bne_eq_false_iff_eq.mpr c2
  clear c2
  simp only [Option.some.injEq, Prod.mk.injEq] at H
  obtain ⟨rfl, rfl⟩ := H
  go_enter Tryz.func16, Tryz.ntmps16
  go_wp2
  go_ret2
  exact ⟨_, oE, Kd.Q_of_R (by first | exact Kd.R_nil _ _ _ _ _ | exact Kd.N_nil _ _ _ _ _ | exact Kd.V_nil _ _ _ _ _ | exact Kd.Q_nil _ _ _ _ _ | exact Kd.S_nil _ _ _ _ _), oB⟩
 ·rw [if_neg c2] at H
  have c2b0 : (a0.toList == ([47] : List UInt8)) = false := beq_eq_false_iff_ne.mpr c2
  have c2b1 : (a0.toList != ([47] : List UInt8)) = true := bne_iff_ne.mpr c2
  replace H := bA H
  obtain ⟨t155, A3, H⟩ := H
  try dsimp only at H
  by_cases c4 : 0 < (t155.length : Int)
  ·rw [if_pos c4] at H
   have c4b0 : decide (0 < (t155.length : Int)) = true := decide_eq_true c4
   have c4b1 : decide (0 < t155.length) = true := decide_eq_true (by omega)
   clear c4
   by_cases c5 : (rdOf ByteArray.empty t155 0).toList = ([] : List UInt8)
   ·rw [if_pos c5] at H
    have c5b0 : ((rdOf ByteArray.empty t155 0).toList == ([] : List UInt8)) = true := beq_iff_eq.mpr c5
    have c5b1 : ((rdOf ByteArray.empty t155 0).toList != ([] : List UInt8)) = false := bne_eq_false_iff_eq.mpr c5
    clear c5
    by_cases c6 : (t155.length : Int) < 2
    ·rw [if_pos c6] at H
     have c6b0 : decide ((t155.length : Int) < 2) = true := decide_eq_true c6
     have c6b1 : decide (t155.length < 2) = true := decide_eq_true (by omega)
     clear c6
     simp only [Option.some.injEq, Prod.mk.injEq] at H
     obtain ⟨rfl, rfl⟩ := H
     go_enter Tryz.func16, Tryz.ntmps16
     go_wp2_with (first | ((with_reducible refine gate_callee (f := 36) rfl ?_); refine gl_ 8 Tryz.func36 (strings_Split.calls a0 (⟨#[47]⟩ : ByteArray) t155 _ A3.out) ?_; rintro e w7 ⟨v156, rfl, ho0, hb⟩; refine ⟨_, rfl, ?_⟩; have HO157 := Aside0.mk (Kd.R_lower ho0 (below_size oB)); replace HB := Aside0.mk (below_step oB hb); obtain ⟨Ao8, co8, eo8⟩ := Kd.R_slice HO157.out; subst eo8; have p158 : 0 ≤ (0 : Int) := (by omega); have q158 : 0 < (t155.length : Int) := oa; obtain ⟨ad158, e158, hx158_0⟩ := Kd.at_string (Kd.R_reads' HO157.out).2.2 0 p158 q158; cases e158; have qi158 : (0 < t155.length) = True := eq_true (by omega); (try rw [show ((0 : Int)).toNat = 0 from rfl] at hx158_0); (try rw [Addr.add_zero'] at hx158_0); replace p158 := eq_true p158; replace q158 := eq_true q158))
     go_ret2
     exact ⟨_, oE, Kd.Q_of_R (by first | exact Kd.R_nil _ _ _ _ _ | exact Kd.N_nil _ _ _ _ _ | exact Kd.V_nil _ _ _ _ _ | exact Kd.Q_nil _ _ _ _ _ | exact Kd.S_nil _ _ _ _ _), oB⟩
    ·rw [if_neg c6] at H
     have c6b0 : decide ((t155.length : Int) < 2) = false := decide_eq_false c6
     have c6b1 : decide (t155.length < 2) = false := decide_eq_false (by omega)
     clear c6
     by_cases c9 : 1 ≤ (t155.length : Int)
     ·rw [if_pos c9] at H
      have c9b0 := eq_true c9
      have c9b1 : decide (1 ≤ (t155.length : Int)) = true := decide_eq_true c9
      clear c9
      obtain ⟨y159, hy159⟩ : ∃ y_ : List ByteArray, y_ = (t155.drop 1) := ⟨_, rfl⟩
      replace H : ((impl_namesOk.f k y159).bind fun t163 => (if t163 = true then (some ((t155.drop (1 : Int).toNat), true)) else (some (([] : List ByteArray), false)))) = some (r1, r2) := by first | (rw [hy159]; with_reducible exact H) | (have H2_ := (Option.bind_some _ _).symm.trans H; rw [hy159]; with_reducible exact H2_) | (have H2_ := (Option.bind_some _ _).symm.trans H; with_reducible exact H2_) | with_reducible exact H | (rw [hy159]; exact H) | exact H
      have Ny159 := Aside0.mk hy159
      clear hy159
      replace H := bA H
      obtain ⟨t163, A10, H⟩ := H
      try dsimp only at H
      replace H := itB H
      rcases H with ⟨rfl, H⟩ | ⟨rfl, H⟩
      ·have c12b0 := eq_true (oa : 1 ≤ (t155.length : Int))
       obtain ⟨y164, hy164⟩ : ∃ y_ : List ByteArray, y_ = (t155.drop (1 : Int).toNat) := ⟨_, rfl⟩
       replace H : (some (y164, true)) = some (r1, r2) := by first | (rw [hy164]; with_reducible exact H) | (have H2_ := (Option.bind_some _ _).symm.trans H; rw [hy164]; with_reducible exact H2_) | (have H2_ := (Option.bind_some _ _).symm.trans H; with_reducible exact H2_) | with_reducible exact H | (rw [hy164]; exact H) | exact H
       have Ny164 := Aside0.mk hy164
       clear hy164
       simp only [Option.some.injEq, Prod.mk.injEq] at H
       obtain ⟨rfl, rfl⟩ := H
       go_enter Tryz.func16, Tryz.ntmps16
       go_wp2_with (first | ((with_reducible refine gate_callee (f := 36) rfl ?_); refine gl_ 8 Tryz.func36 (strings_Split.calls a0 (⟨#[47]⟩ : ByteArray) t155 _ A3.out) ?_; rintro e w13 ⟨v156, rfl, ho0, hb⟩; refine ⟨_, rfl, ?_⟩; have HO157 := Aside0.mk (Kd.R_lower ho0 (below_size oB)); replace HB := Aside0.mk (below_step oB hb); obtain ⟨Ao14, co14, eo14⟩ := Kd.R_slice HO157.out; subst eo14; have p158 : 0 ≤ (0 : Int) := (by omega); have q158 : 0 < (t155.length : Int) := oa; obtain ⟨ad158, e158, hx158_0⟩ := Kd.at_string (Kd.R_reads' HO157.out).2.2 0 p158 q158; cases e158; have qi158 : (0 < t155.length) = True := eq_true (by omega); (try rw [show ((0 : Int)).toNat = 0 from rfl] at hx158_0); (try rw [Addr.add_zero'] at hx158_0); replace p158 := eq_true p158; replace q158 := eq_true q158; have q15 : (1 : Int) ≤ ((t155.length : Int) : Int) := oa; obtain ⟨i015, hi015, _, hsz15, _⟩ := info_parts info9; have hroom15 : t155.length ≤ co14 := (Kd.R_reads' HO157.out).2.1; have hC15 : Kd.C Kd.string _ (some ad158) t155.length t155 := (Kd.R_reads' HO157.out).2.2; have hcut15 := cut_from (P := Tryz.prog) 31 9 .i64 Tryz.underlying31 hi015 1 hsz15 (some ad158) t155.length co14 1 (by omega) q15; have hr15 := Kd.C_drop (m := (1 : Int).toNat) (c := co14) hC15 (by omega) hroom15; obtain ⟨A15, hA15⟩ : ∃ A1, A1 = (if co14 = (1 : Int).toNat then (some ad158) else ((some ad158) : Option Addr).map (·.add ((1 : Int).toNat * 1))) := ⟨_, rfl⟩; obtain ⟨c15, hc15⟩ : ∃ c1, c1 = co14 - (1 : Int).toNat := ⟨_, rfl⟩; have hy15 : y159.length = t155.length - (1 : Int).toNat := (by rw [Ny159.out, List.length_drop] <;> omega); rw [show (t155).drop (1 : Int).toNat = y159 from Ny159.out.symm] at hr15; replace hr15 : Kd.C Kd.string _ A15 y159.length y159 := (by rw [hA15]; exact hr15); rw [← hy15, ← hA15, ← hc15] at hcut15; have HR162 := Aside0.mk hr15; have HC162 := Aside0.mk (show y159.length ≤ c15 from by rw [hy15, hc15]; exact Nat.sub_le_sub_right hroom15 _); have KC15 := Aside0.mk hc15; clear hr15 hC15 hroom15 hi015 hsz15 hc15; have KY15 := Aside0.mk hy15; have KA15 := Aside0.mk hA15; clear hy15 hA15; have KL15 := Aside0.mk (show 1 ≤ t155.length from by omega); replace q15 := eq_true q15) | (go_at_call 37; (with_reducible refine (impl_namesOk.calls k _ _ y159 true _ ?side1 HC162.out A10.out).mono ?_); (case side1 => repeat (first | exact (by repeat (first | (with_reducible exact HR162.out) | (with_reducible refine Kd.C_alloc ?_ _) | (with_reducible refine Kd.C_drewN ?_ _) | (with_reducible refine Kd.C_drew ?_) | exact HR162.out)) | (with_reducible refine Kd.C_alloc ?_ _) | (with_reducible refine Kd.C_drewN ?_ _) | (with_reducible refine Kd.C_drew ?_))); rintro e w16 ⟨rfl, hb⟩; replace HO157 := kr_ HO157 hb; replace HR162 := Aside0.mk (Kd.C_below (by repeat (first | (with_reducible exact HR162.out) | (with_reducible refine Kd.C_alloc ?_ _) | (with_reducible refine Kd.C_drewN ?_ _) | (with_reducible refine Kd.C_drew ?_) | exact HR162.out)) hb); replace HB := Aside0.mk (below_step oB hb); have q17 : (1 : Int) ≤ ((t155.length : Int) : Int) := oa; obtain ⟨i017, hi017, _, hsz17, _⟩ := info_parts info9; have hcut17 := cut_from (P := Tryz.prog) 31 9 .i64 Tryz.underlying31 hi017 1 hsz17 (some ad158) t155.length co14 1 (by omega) q17; have hr17 := Kd.Q_drop (k := (1 : Int).toNat) (Kd.Q_of_R HO157.out) (by omega); obtain ⟨A17, hA17⟩ : ∃ A1, A1 = (if co14 = (1 : Int).toNat then (some ad158) else ((some ad158) : Option Addr).map (·.add ((1 : Int).toNat * 1))) := ⟨_, rfl⟩; obtain ⟨c17, hc17⟩ : ∃ c1, c1 = co14 - (1 : Int).toNat := ⟨_, rfl⟩; have hy17 : y164.length = t155.length - (1 : Int).toNat := (by rw [Ny164.out, List.length_drop]); rw [← Ny164.out] at hr17; rw [← hy17, ← hA17, ← hc17] at hcut17; replace hr17 : Kd.Q Kd.string 9 w16 w.heap.size (fun _ => True) (.slice A17 y164.length c17) y164 := (by rw [hA17, hc17, hy17]; exact hr17); have HE17 : Aside0 ((Value.slice A17 y164.length c17).ownBlock = (.slice (some ad158) t155.length co14 : Value).ownBlock) := ⟨by rw [hA17]; split <;> (cases ((some ad158) : Option Addr) <;> rfl)⟩; obtain rfl : A15 = A17 := KA15.out.trans hA17.symm; obtain rfl : c15 = c17 := KC15.out.trans hc17.symm; obtain rfl : y159 = y164 := Ny159.out.trans Ny164.out.symm; clear hy17 hi017 hsz17 HO157 hA17 hc17; have HO166 := Aside0.mk hr17; clear hr17; replace q17 := eq_true q17))
       go_ret2
       exact ⟨_, oE, by (with_reducible repeat (first | apply Kd.Q_alloc | apply Kd.Q_drewN | apply Kd.Q_drew)); exact HO166.out, oB⟩
      ·simp only [Option.some.injEq, Prod.mk.injEq] at H
       obtain ⟨rfl, rfl⟩ := H
       go_enter Tryz.func16, Tryz.ntmps16
       go_wp2_with (first | ((with_reducible refine gate_callee (f := 36) rfl ?_); refine gl_ 8 Tryz.func36 (strings_Split.calls a0 (⟨#[47]⟩ : ByteArray) t155 _ A3.out) ?_; rintro e w18 ⟨v156, rfl, ho0, hb⟩; refine ⟨_, rfl, ?_⟩; have HO157 := Aside0.mk (Kd.R_lower ho0 (below_size oB)); replace HB := Aside0.mk (below_step oB hb); obtain ⟨Ao19, co19, eo19⟩ := Kd.R_slice HO157.out; subst eo19; have p158 : 0 ≤ (0 : Int) := (by omega); have q158 : 0 < (t155.length : Int) := oa; obtain ⟨ad158, e158, hx158_0⟩ := Kd.at_string (Kd.R_reads' HO157.out).2.2 0 p158 q158; cases e158; have qi158 : (0 < t155.length) = True := eq_true (by omega); (try rw [show ((0 : Int)).toNat = 0 from rfl] at hx158_0); (try rw [Addr.add_zero'] at hx158_0); replace p158 := eq_true p158; replace q158 := eq_true q158; have q20 : (1 : Int) ≤ ((t155.length : Int) : Int) := oa; obtain ⟨i020, hi020, _, hsz20, _⟩ := info_parts info9; have hroom20 : t155.length ≤ co19 := (Kd.R_reads' HO157.out).2.1; have hC20 : Kd.C Kd.string _ (some ad158) t155.length t155 := (Kd.R_reads' HO157.out).2.2; have hcut20 := cut_from (P := Tryz.prog) 31 9 .i64 Tryz.underlying31 hi020 1 hsz20 (some ad158) t155.length co19 1 (by omega) q20; have hr20 := Kd.C_drop (m := (1 : Int).toNat) (c := co19) hC20 (by omega) hroom20; obtain ⟨A20, hA20⟩ : ∃ A1, A1 = (if co19 = (1 : Int).toNat then (some ad158) else ((some ad158) : Option Addr).map (·.add ((1 : Int).toNat * 1))) := ⟨_, rfl⟩; obtain ⟨c20, hc20⟩ : ∃ c1, c1 = co19 - (1 : Int).toNat := ⟨_, rfl⟩; have hy20 : y159.length = t155.length - (1 : Int).toNat := (by rw [Ny159.out, List.length_drop] <;> omega); rw [show (t155).drop (1 : Int).toNat = y159 from Ny159.out.symm] at hr20; replace hr20 : Kd.C Kd.string _ A20 y159.length y159 := (by rw [hA20]; exact hr20); rw [← hy20, ← hA20, ← hc20] at hcut20; have HR162 := Aside0.mk hr20; have HC162 := Aside0.mk (show y159.length ≤ c20 from by rw [hy20, hc20]; exact Nat.sub_le_sub_right hroom20 _); clear hr20 hC20 hroom20 hi020 hsz20 hc20; have KY20 := Aside0.mk hy20; have KA20 := Aside0.mk hA20; clear hy20 hA20; have KL20 := Aside0.mk (show 1 ≤ t155.length from by omega); replace q20 := eq_true q20) | (go_at_call 37; (with_reducible refine (impl_namesOk.calls k _ _ y159 false _ ?side1 HC162.out A10.out).mono ?_); (case side1 => repeat (first | exact (by repeat (first | (with_reducible exact HR162.out) | (with_reducible refine Kd.C_alloc ?_ _) | (with_reducible refine Kd.C_drewN ?_ _) | (with_reducible refine Kd.C_drew ?_) | exact HR162.out)) | (with_reducible refine Kd.C_alloc ?_ _) | (with_reducible refine Kd.C_drewN ?_ _) | (with_reducible refine Kd.C_drew ?_))); rintro e w21 ⟨rfl, hb⟩; replace HO157 := kr_ HO157 hb; replace HR162 := Aside0.mk (Kd.C_below (by repeat (first | (with_reducible exact HR162.out) | (with_reducible refine Kd.C_alloc ?_ _) | (with_reducible refine Kd.C_drewN ?_ _) | (with_reducible refine Kd.C_drew ?_) | exact HR162.out)) hb); replace HB := Aside0.mk (below_step oB hb)))
       go_ret2
       exact ⟨_, oE, Kd.Q_of_R (by first | exact Kd.R_nil _ _ _ _ _ | exact Kd.N_nil _ _ _ _ _ | exact Kd.V_nil _ _ _ _ _ | exact Kd.Q_nil _ _ _ _ _ | exact Kd.S_nil _ _ _ _ _), oB⟩
     ·rw [if_neg c9] at H
      exact absurd H (by simp)
   ·rw [if_neg c5] at H
    have c5b0 : ((rdOf ByteArray.empty t155 0).toList == ([] : List UInt8)) = false := beq_eq_false_iff_ne.mpr c5
    have c5b1 : ((rdOf ByteArray.empty t155 0).toList != ([] : List UInt8)) = true := bne_iff_ne.mpr c5
    simp only [Option.some.injEq, Prod.mk.injEq] at H
    obtain ⟨rfl, rfl⟩ := H
    go_enter Tryz.func16, Tryz.ntmps16
    go_wp2_with (first | ((with_reducible refine gate_callee (f := 36) rfl ?_); refine gl_ 8 Tryz.func36 (strings_Split.calls a0 (⟨#[47]⟩ : ByteArray) t155 _ A3.out) ?_; rintro e w22 ⟨v156, rfl, ho0, hb⟩; refine ⟨_, rfl, ?_⟩; have HO157 := Aside0.mk (Kd.R_lower ho0 (below_size oB)); replace HB := Aside0.mk (below_step oB hb); obtain ⟨Ao23, co23, eo23⟩ := Kd.R_slice HO157.out; subst eo23; have p158 : 0 ≤ (0 : Int) := (by omega); have q158 : 0 < (t155.length : Int) := oa; obtain ⟨ad158, e158, hx158_0⟩ := Kd.at_string (Kd.R_reads' HO157.out).2.2 0 p158 q158; cases e158; have qi158 : (0 < t155.length) = True := eq_true (by omega); (try rw [show ((0 : Int)).toNat = 0 from rfl] at hx158_0); (try rw [Addr.add_zero'] at hx158_0); replace p158 := eq_true p158; replace q158 := eq_true q158))
    go_ret2
    exact ⟨_, oE, Kd.Q_of_R (by first | exact Kd.R_nil _ _ _ _ _ | exact Kd.N_nil _ _ _ _ _ | exact Kd.V_nil _ _ _ _ _ | exact Kd.Q_nil _ _ _ _ _ | exact Kd.S_nil _ _ _ _ _), oB⟩
  ·rw [if_neg c4] at H
   exact absurd H (by simp)

-- NOT PRINTED: function 69 (slices_IndexFunc_Inode)

/-! ### impl_placeOf: function 41 -/
def placeR (ino : Int) : List S51 → Nat → Int
 | [], _ => -1
 | x :: l, i => if x.f0 = ino then (i : Int) else placeR ino l (i + 1)
theorem placeOf1.calls (ino a b c : Int) (A3 A4 A5 : Option Addr) (n3 c3 n4 c4 n5 c5 : Nat) (B : Nat) (W : World) (hB : B < W.heap.size) (hc : W.cell? ⟨B, 0, none⟩ = some (.int .i64 ino)) :
  Calls Tryz.prog 70 #[.agg #[.int .i64 a, .int .i64 b, .int .i64 c, .slice A3 n3 c3, .slice A4 n4 c4, .slice A5 n5 c5], .pointer (some ⟨B, 0, none⟩)] W fun e w' => e = .returned (.bool (a == ino)) ∧ Below W.heap.size W w' := by
 have hne : B ≠ W.heap.size := by omega
 go_enter Tryz.func70, Tryz.ntmps70
 go_wp2
 all_goals (go_ret; exact ⟨by simp_all, (Below.refl _ W).alloc (Nat.le_refl _) _⟩)
theorem placeR_none (ino : Int) (l : List S51) (i : Nat) (h : ∀ x ∈ l, x.f0 ≠ ino) : placeR ino l i = -1 := by
 induction l generalizing i with
 | nil => rfl
 | cons x l ih => rw [placeR, if_neg (h x (List.mem_cons_self ..))]; exact ih (i + 1) (fun y hy => h y (List.mem_cons_of_mem _ hy))
theorem rd51_at (l : List S51) (k : Nat) (h : k < l.length) : rd_T51 l (k : Int) = l[k] := by
 simp [rd_T51, List.getD_eq_getElem?_getD, List.getElem?_eq_getElem h]
theorem placeR_hit (ino : Int) (l : List S51) (k j : Nat) (h : k < l.length) (hit : (rd_T51 l (k : Int)).f0 = ino) : placeR ino (l.drop k) j = (j : Int) := by
 rw [List.drop_eq_getElem_cons h, placeR, if_pos (by rw [← rd51_at l k h]; exact hit)]
theorem placeR_miss (ino : Int) (l : List S51) (k j : Nat) (h : k < l.length) (hit : (rd_T51 l (k : Int)).f0 ≠ ino) : placeR ino (l.drop k) j = placeR ino (l.drop (k + 1)) (j + 1) := by
 rw [List.drop_eq_getElem_cons h, placeR, if_neg (by rw [← rd51_at l k h]; exact hit)]
set_option maxHeartbeats 400000 in
set_option maxRecDepth 100000 in
theorem placeOf2.calls (ino : Int) (A0 : Option Addr) (c0 : Nat) (l : List S51) (B : Nat) (w : World) (hr : k51.C w A0 l.length l) (hB : B < w.heap.size) (hc : w.cell? ⟨B, 0, none⟩ = some (.int .i64 ino)) (hl : l.length ≤ 9223372036854775807) :
  Calls Tryz.prog 69 #[.slice A0 l.length c0, .func (.func 70) #[] #[.pointer (some ⟨B, 0, none⟩)]] w fun e w' => e = .returned (.int .i64 (placeR ino l 0)) ∧ Below w.heap.size w w' := by
 go_enter Tryz.func69, Tryz.ntmps69
 go_wp2
 go_loopg [5, 8] l.length (fun gg _ s8 wr => ∃ kk : Nat, kk ≤ l.length ∧ l.length - kk ≤ gg ∧ s8 = .int .i64 kk ∧ Aside0 (Below w.heap.size w wr) ∧ Aside0 (placeR ino l 0 = placeR ino (l.drop kk) kk))
 case atStart => exact ⟨0, Nat.zero_le _, by omega, rfl, ⟨Below.refl _ w⟩, ⟨rfl⟩⟩
 case round =>
  obtain ⟨kk, hkk, hg, rfl, BW, A⟩ := hrel
  by_cases hlt : kk < l.length
  ·have hltz : (kk : Int) < (l.length : Int) := by omega
   obtain ⟨ad, A3, c3, A4, c4, A5, c5, e0, h0, h1, h2, h3, h4, h5, _⟩ := at_T51 (Kd.C_below hr BW.out) (kk : Int) (by omega) hltz
   cases e0
   rw [Int.toNat_natCast] at h0 h1 h2 h3 h4 h5
   have hBw : B < wr.heap.size := Nat.lt_of_lt_of_le hB BW.out.size
   have hcw : wr.cell? ⟨B, 0, none⟩ = some (.int .i64 ino) := (BW.out.cell (p := ⟨B, 0, none⟩) hB).trans hc
   by_cases hit : (rd_T51 l (kk : Int)).f0 = ino
   ·have hq : ((rd_T51 l (kk : Int)).f0 == ino) = true := by simpa using hit
    go_wp2_with (go_at_call 70; refine (placeOf1.calls ino _ _ _ _ _ _ _ _ _ _ _ _ B wr hBw hcw).mono ?_; rintro e w' ⟨rfl, hb'⟩)
    go_ret
    exact ⟨by rw [A.out, placeR_hit ino l kk kk hlt hit]; rfl, below_then BW.out BW.out.size hb'⟩
   ·have hq : ((rd_T51 l (kk : Int)).f0 == ino) = false := by simpa using hit
    go_wp2_with (go_at_call 70; refine (placeOf1.calls ino _ _ _ _ _ _ _ _ _ _ _ _ B wr hBw hcw).mono ?_; rintro e w' ⟨rfl, hb'⟩)
    go_roundg (l.length - (kk + 1))
    case measure => omega
    case rel => exact ⟨kk + 1, by omega, by omega, by go_num, ⟨below_then BW.out BW.out.size hb'⟩, ⟨by rw [A.out, placeR_miss ino l kk kk hlt hit]⟩⟩
  ·have hltz : ¬ (kk : Int) < (l.length : Int) := by omega
   obtain rfl : kk = l.length := by omega
   go_wp2
   go_ret
   exact ⟨by rw [A.out, List.drop_length]; rfl, BW.out⟩
def impl_placeOf.f (k : Nat) (l0_0 : List S51) (a0_1 a1 : Int) : Option Int := if (l0_0.length : Int) ≤ 9223372036854775807 then some (placeR a1 l0_0 0) else none
set_option maxHeartbeats 400000 in
theorem impl_placeOf.calls (k : Nat) (A0_0 : Option Addr) (c0_0 : Nat) (l0_0 : List S51) (a0_1 a1 : Int) (r : Int) (w : World) (hr0_0 : Kd.C k51 w A0_0 l0_0.length l0_0) (hc0_0 : l0_0.length ≤ c0_0) (h : impl_placeOf.f k l0_0 a0_1 a1 = some r) :
  Calls Tryz.prog 41 #[.agg #[.slice A0_0 l0_0.length c0_0, .int .i64 a0_1], .int .i64 a1] w fun e w' => e = .returned (.int .i64 r) ∧ Below w.heap.size w w' := by
 unfold impl_placeOf.f at h
 split at h
 case isFalse => cases h
 case isTrue hl =>
 obtain rfl := Option.some.inj h
 clear h
 have hw1 : Below w.heap.size w (w.alloc (.cells #[.slice A0_0 l0_0.length c0_0, .int .i64 a0_1] 26)) := (Below.refl _ w).alloc (Nat.le_refl _) _
 have hw2 : Below w.heap.size w ((w.alloc (.cells #[.slice A0_0 l0_0.length c0_0, .int .i64 a0_1] 26)).alloc (.cells #[.int .i64 a1] 3)) := hw1.alloc (by simp) _
 have hcon := placeOf2.calls a1 A0_0 c0_0 l0_0 (w.heap.size + 1) ((w.alloc (.cells #[.slice A0_0 l0_0.length c0_0, .int .i64 a0_1] 26)).alloc (.cells #[.int .i64 a1] 3)) (Kd.C_below hr0_0 hw2) (by simp) (by simp) (by omega)
 clear hr0_0 hw1
 go_enter Tryz.func41, Tryz.ntmps41
 go_wp2_with (go_at_call 69; refine hcon.mono ?_; rintro e w' ⟨rfl, hb'⟩)
 go_ret
 exact ⟨rfl, below_then hw2 (by simp only [World.size_alloc]; omega) hb'⟩
/-! ### impl_InodeAt: function 42 -/
def impl_InodeAt.f (k : Nat) (l0_0 : List (S51)) (a0_1 : Int) (a1 : Int) : Option (Int × Int × Int × List Int × (List (S65)) × (List (S71)) × Bool) := (impl_placeOf.f k l0_0 a0_1 a1).bind fun t169 => (if t169 < 0 then (some (0, 0, 0, ([] : List Int), ([] : List (S65)), ([] : List (S71)), false)) else (if 0 ≤ t169 then (if t169 < (l0_0.length : Int) then ((impl_copyInode.f ((rd_T51 l0_0 t169).f0) ((rd_T51 l0_0 t169).f1) ((rd_T51 l0_0 t169).f2) ((rd_T51 l0_0 t169).f3) ((rd_T51 l0_0 t169).f4) ((rd_T51 l0_0 t169).f5)).bind fun bt171 => (some (bt171.1, bt171.2.1, bt171.2.2.1, bt171.2.2.2.1, bt171.2.2.2.2.1, bt171.2.2.2.2.2, true))) else (none)) else (none)))
set_option maxHeartbeats 8000000 in
set_option maxRecDepth 100000 in
theorem impl_InodeAt.calls (k : Nat) (A0_0 : Option Addr) (c0_0 : Nat) (l0_0 : List (S51)) (a0_1 : Int) (a1 : Int) (r1 : Int) (r2 : Int) (r3 : Int) (r4 : List Int) (r5 : List (S65)) (r6 : List (S71)) (r7 : Bool) (w : World) (hr0_0 : Kd.C k51 w A0_0 l0_0.length l0_0) (hc0_0 : l0_0.length ≤ c0_0) (h : impl_InodeAt.f k l0_0 a0_1 a1 = some (r1, r2, r3, r4, r5, r6, r7)) :
  Calls Tryz.prog 42 #[.agg #[.slice A0_0 l0_0.length c0_0, .int .i64 a0_1], .int .i64 a1] w fun e w' => ∃ v3_ v4_ v5_ : Value, e = .returned (.tuple #[.agg #[.int .i64 r1, .int .i64 r2, .int .i64 r3, v3_, v4_, v5_], .bool r7]) ∧ Kd.R (Kd.int .u8) 5 w' w.heap.size (fun _ => True) v3_ r4 ∧ Kd.R k65 65 w' w.heap.size (fun _ => True) v4_ r5 ∧ Kd.R k71 71 w' w.heap.size (fun _ => True) v5_ r6 ∧ Below w.heap.size w w' := by
 have hu26 := Tryz.underlying26
 have hu51 := Tryz.underlying51
 have HR0_0 := Aside0.mk hr0_0
 have HC0_0 := Aside0.mk hc0_0
 clear hr0_0 hc0_0
 have HB := Aside0.mk (Below.refl w.heap.size w)
 unfold impl_InodeAt.f at h
 have H := h
 clear h
 replace H := bA H
 obtain ⟨t169, A3, H⟩ := H
 try dsimp only at H
 replace H := itD H
 rcases H with ⟨c4b0, H⟩ | ⟨c4b0, H⟩
 ·simp only [Option.some.injEq, Prod.mk.injEq] at H
  obtain ⟨rfl, rfl, rfl, rfl, rfl, rfl, rfl⟩ := H
  go_enter Tryz.func42, Tryz.ntmps42
  go_wp2_with (first | ((with_reducible refine gate_dst (N := 2) rfl ?_); refine bx_ 2 #[.slice A0_0 l0_0.length c0_0, .int .i64 a0_1] 26 ?_; intro gb167 hg w5 hbox hb; have BK167 := Aside0.mk (hbox); have GW167 := gs_ hg; replace HB := Aside0.mk (below_step oB hb); clear hb hbox hg) | ((with_reducible refine gate_dst (N := 4) rfl ?_); refine bx_ 4 #[.int .i64 0, .int .i64 0, .int .i64 0, .slice none 0 0, .slice none 0 0, .slice none 0 0] 51 ?_; intro gb168 hg w6 hbox hb; have BK168 := Aside0.mk (hbox); have GW168 := gs_ hg; have NB167_168 := nl_ hg BK167; have NB168_167 := nr_ hg BK167; replace BK167 := kb_ BK167 hb; replace HB := Aside0.mk (below_step oB hb); clear hb hbox hg; have hnb7 := NB167_168.out; have hnc7 := NB168_167.out; obtain ⟨⟨_, _⟩, _, _⟩ := z2 BK167) | ((with_reducible refine gate_callee (f := 41) rfl ?_); refine gl_ 9 Tryz.func41 (impl_placeOf.calls k _ _ l0_0 a0_1 a1 t169 _ (kC HR0_0) HC0_0.out A3.out) ?_; rintro e w9 ⟨rfl, hb⟩; refine ⟨_, rfl, ?_⟩; replace BK167 := kb_ BK167 hb; replace BK168 := kb_ BK168 hb; replace HB := Aside0.mk (below_step oB hb); obtain ⟨⟨_, _, _, _, _, _⟩, _, _, _, _, _, _⟩ := z6 BK168))
  refine bodyPost_ret (results_ct rfl _ _ gb168 51 #[.int .i64 0, .int .i64 0, .int .i64 0, .slice none 0 0, .slice none 0 0, .slice none 0 0] (0, 0) _ rfl (oP BK168) Tryz.underlying51 rfl (by kernel_rfl)) rfl ?_
  exact ⟨_, _, _, oE, by first | exact Kd.R_nil _ _ _ _ _ | exact Kd.N_nil _ _ _ _ _ | exact Kd.V_nil _ _ _ _ _ | exact Kd.Q_nil _ _ _ _ _ | exact Kd.S_nil _ _ _ _ _, by first | exact Kd.R_nil _ _ _ _ _ | exact Kd.N_nil _ _ _ _ _ | exact Kd.V_nil _ _ _ _ _ | exact Kd.Q_nil _ _ _ _ _ | exact Kd.S_nil _ _ _ _ _, by first | exact Kd.R_nil _ _ _ _ _ | exact Kd.N_nil _ _ _ _ _ | exact Kd.V_nil _ _ _ _ _ | exact Kd.Q_nil _ _ _ _ _ | exact Kd.S_nil _ _ _ _ _, oB⟩
 ·replace H := itD H
  rcases H with ⟨c11b0, H⟩ | ⟨c11b0, H⟩
  ·replace H := itD H
   rcases H with ⟨c12b0, H⟩ | ⟨c12b0, H⟩
   ·replace H := bA H
    obtain ⟨⟨t171, t172, t173, t174, t177, t180⟩, A13, H⟩ := H
    try dsimp only at H
    simp only [Option.some.injEq, Prod.mk.injEq] at H
    obtain ⟨rfl, rfl, rfl, rfl, rfl, rfl, rfl⟩ := H
    go_enter Tryz.func42, Tryz.ntmps42
    go_wp2_with (first | ((with_reducible refine gate_dst (N := 2) rfl ?_); refine bx_ 2 #[.slice A0_0 l0_0.length c0_0, .int .i64 a0_1] 26 ?_; intro gb167 hg w14 hbox hb; have BK167 := Aside0.mk (hbox); have GW167 := gs_ hg; replace HB := Aside0.mk (below_step oB hb); clear hb hbox hg) | ((with_reducible refine gate_dst (N := 4) rfl ?_); refine bx_ 4 #[.int .i64 0, .int .i64 0, .int .i64 0, .slice none 0 0, .slice none 0 0, .slice none 0 0] 51 ?_; intro gb168 hg w15 hbox hb; have BK168 := Aside0.mk (hbox); have GW168 := gs_ hg; have NB167_168 := nl_ hg BK167; have NB168_167 := nr_ hg BK167; replace BK167 := kb_ BK167 hb; replace HB := Aside0.mk (below_step oB hb); clear hb hbox hg; have hnb16 := NB167_168.out; have hnc16 := NB168_167.out; obtain ⟨⟨_, _⟩, _, _⟩ := z2 BK167) | ((with_reducible refine gate_callee (f := 41) rfl ?_); refine gl_ 9 Tryz.func41 (impl_placeOf.calls k _ _ l0_0 a0_1 a1 t169 _ (kC HR0_0) HC0_0.out A3.out) ?_; rintro e w18 ⟨rfl, hb⟩; refine ⟨_, rfl, ?_⟩; replace BK167 := kb_ BK167 hb; replace BK168 := kb_ BK168 hb; replace HB := Aside0.mk (below_step oB hb); obtain ⟨⟨_, _⟩, _, _⟩ := z2 BK167; have p170 : (0 ≤ (t169 : Int)) = True := oT; have q170 : (t169 < (l0_0.length : Int)) = True := oT; obtain ⟨ad170, A170_3, c170_3, A170_4, c170_4, A170_5, c170_5, e170, hx170_0, hx170_1, hx170_2, hx170_3, hx170_4, hx170_5, hl170_3, hi170_3, hl170_4, hi170_4, hl170_5, hi170_5⟩ := at_T51 HR0_0.out t169 oa oa; cases e170; replace hx170_0 := cB HB hx170_0; replace hx170_1 := cB HB hx170_1; replace hx170_2 := cB HB hx170_2; replace hx170_3 := cB HB hx170_3; replace hx170_4 := cB HB hx170_4; replace hx170_5 := cB HB hx170_5; have HR170_3 := Aside0.mk hi170_3; have HC170_3 := Aside0.mk hl170_3; clear hi170_3 hl170_3; have HR170_4 := Aside0.mk hi170_4; have HC170_4 := Aside0.mk hl170_4; clear hi170_4 hl170_4; have HR170_5 := Aside0.mk hi170_5; have HC170_5 := Aside0.mk hl170_5; clear hi170_5 hl170_5) | ((with_reducible refine gate_callee (f := 71) rfl ?_); refine gl_ 18 Tryz.func71 (impl_copyInode.calls ((rd_T51 l0_0 t169).f0) ((rd_T51 l0_0 t169).f1) ((rd_T51 l0_0 t169).f2) _ _ ((rd_T51 l0_0 t169).f3) _ _ ((rd_T51 l0_0 t169).f4) _ _ ((rd_T51 l0_0 t169).f5) t171 t172 t173 t174 t177 t180 _ (kC HR170_3) HC170_3.out (kC HR170_4) HC170_4.out (kC HR170_5) HC170_5.out A13.out) ?_; rintro e w20 ⟨v175, v178, v181, rfl, ho0, ho1, ho2, hb⟩; refine ⟨_, rfl, ?_⟩; have HO176 := Aside0.mk (Kd.R_lower ho0 (below_size oB)); have HO179 := Aside0.mk (Kd.R_lower ho1 (below_size oB)); have HO182 := Aside0.mk (Kd.R_lower ho2 (below_size oB)); replace BK167 := kb_ BK167 hb; replace BK168 := kb_ BK168 hb; replace HB := Aside0.mk (below_step oB hb); (try clear ho1); (try clear ho2); obtain ⟨⟨_, _, _, _, _, _⟩, _, _, _, _, _, _⟩ := z6 BK168; obtain ⟨Ao22, co22, eo22⟩ := Kd.R_slice HO176.out; subst eo22; obtain ⟨Ao23, co23, eo23⟩ := Kd.R_slice HO179.out; subst eo23; obtain ⟨Ao24, co24, eo24⟩ := Kd.R_slice HO182.out; subst eo24))
    refine bodyPost_ret (results_ct rfl _ _ gb168 51 #[.int .i64 t171, .int .i64 t172, .int .i64 t173, .slice Ao22 t174.length co22, .slice Ao23 t177.length co23, .slice Ao24 t180.length co24] (0, 0) _ rfl (oP BK168) Tryz.underlying51 rfl (by kernel_rfl)) rfl ?_
    exact ⟨_, _, _, oE, by (with_reducible repeat (first | apply Kd.R_alloc | apply Kd.R_drewN | apply Kd.R_drew)); exact Kd.R_mono (Kd.R_far (p := ⟨gb168, 5, none⟩) (Kd.R_far (p := ⟨gb168, 4, none⟩) (Kd.R_far (p := ⟨gb168, 3, none⟩) (Kd.R_far (p := ⟨gb168, 2, none⟩) (Kd.R_far (p := ⟨gb168, 1, none⟩) (Kd.R_far (p := ⟨gb168, 0, none⟩) (Kd.R_types HO176.out BK168.out (by decide)) (fun _ hk => hk.2) (.int .i64 t171)) (fun _ hk => hk.2) (.int .i64 t172)) (fun _ hk => hk.2) (.int .i64 t173)) (fun _ hk => hk.2) (.slice Ao22 t174.length co22)) (fun _ hk => hk.2) (.slice Ao23 t177.length co23)) (fun _ hk => hk.2) (.slice Ao24 t180.length co24)) (fun _ hk => trivial), by (with_reducible repeat (first | apply Kd.R_alloc | apply Kd.R_drewN | apply Kd.R_drew)); exact Kd.R_mono (Kd.R_far (p := ⟨gb168, 5, none⟩) (Kd.R_far (p := ⟨gb168, 4, none⟩) (Kd.R_far (p := ⟨gb168, 3, none⟩) (Kd.R_far (p := ⟨gb168, 2, none⟩) (Kd.R_far (p := ⟨gb168, 1, none⟩) (Kd.R_far (p := ⟨gb168, 0, none⟩) (Kd.R_types HO179.out BK168.out (by decide)) (fun _ hk => hk.2) (.int .i64 t171)) (fun _ hk => hk.2) (.int .i64 t172)) (fun _ hk => hk.2) (.int .i64 t173)) (fun _ hk => hk.2) (.slice Ao22 t174.length co22)) (fun _ hk => hk.2) (.slice Ao23 t177.length co23)) (fun _ hk => hk.2) (.slice Ao24 t180.length co24)) (fun _ hk => trivial), by (with_reducible repeat (first | apply Kd.R_alloc | apply Kd.R_drewN | apply Kd.R_drew)); exact Kd.R_mono (Kd.R_far (p := ⟨gb168, 5, none⟩) (Kd.R_far (p := ⟨gb168, 4, none⟩) (Kd.R_far (p := ⟨gb168, 3, none⟩) (Kd.R_far (p := ⟨gb168, 2, none⟩) (Kd.R_far (p := ⟨gb168, 1, none⟩) (Kd.R_far (p := ⟨gb168, 0, none⟩) (Kd.R_types HO182.out BK168.out (by decide)) (fun _ hk => hk.2) (.int .i64 t171)) (fun _ hk => hk.2) (.int .i64 t172)) (fun _ hk => hk.2) (.int .i64 t173)) (fun _ hk => hk.2) (.slice Ao22 t174.length co22)) (fun _ hk => hk.2) (.slice Ao23 t177.length co23)) (fun _ hk => hk.2) (.slice Ao24 t180.length co24)) (fun _ hk => trivial), oB⟩
   ·cases H
  ·cases H

/-! ### impl_from: function 47 -/
def impl_from.f (a0 : Int) (a1 : Int) (a2 : Int) : Option (Bool) := if a0 ≥ a1 then (some (decide (a0 ≤ a2))) else (some false)
set_option maxHeartbeats 8000000 in
set_option maxRecDepth 100000 in
theorem impl_from.calls (a0 : Int) (a1 : Int) (a2 : Int) (r : Bool) (w : World) (h : impl_from.f a0 a1 a2 = some r) :
  Calls Tryz.prog 47 #[.int .i64 a0, .int .i64 a1, .int .i64 a2] w fun e w' => e = .returned (.bool r) ∧ Drawn0 w w' := by
 unfold impl_from.f at h
 have H := h
 clear h
 replace H := itH H
 rcases H with ⟨c4b0, H⟩ | ⟨c4b0, H⟩
 ·obtain rfl := Option.some.inj H
  go_enter Tryz.func47, Tryz.ntmps47
  go_wp2
  go_ret
  exact ⟨oS, oD⟩
 ·obtain rfl := Option.some.inj H
  go_enter Tryz.func47, Tryz.ntmps47
  go_wp2
  go_ret
  exact ⟨oS, oD⟩

end Go.Proofs.YtkcfmbggdkkfeaaGreatDoor.P
