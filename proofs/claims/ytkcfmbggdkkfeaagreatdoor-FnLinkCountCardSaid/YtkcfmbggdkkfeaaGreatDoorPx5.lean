-- By this session's own program (wip/myprint.py) out of the translation; Lean checks it.
import Derived.Test.YtkcfmbggdkkfeaaGreatDoorPx0
import Derived.Test.YtkcfmbggdkkfeaaGreatDoorPx2
import Derived.Test.YtkcfmbggdkkfeaaGreatDoorPx3
namespace Go.Proofs.YtkcfmbggdkkfeaaGreatDoor.P
open Go.RowKit Go.Proofs.YtkcfmbggdkkfeaaGreatDoorW.PrintWords Go.Proofs.YtkcfmbggdkkfeaaGreatDoorW.PrintLast Go.Proofs.YtkcfmbggdkkfeaaGreatDoorW.PrintMore
attribute [local go_sem] max2_int min2_int max_two min_two max_three min_three max_four min_four   -- for this text's walks alone
set_option linter.unusedVariables false
set_option linter.unusedSimpArgs false

/-! ### impl_copyTab: function 45 -/
def impl_copyTab.l0 : Nat → List (S51) → Int → Int → List (S51) → Int → Option ((List (S51)) × Int)
 | 0, _, _, _, _, _ => none
 | k + 1, x10, x11, x12, x238000, x238001 => if x12 < x11 then (if 0 ≤ x12 then (if x12 < (x10.length : Int) then ((impl_copyInode.f ((rd_T51 x10 x12).f0) ((rd_T51 x10 x12).f1) ((rd_T51 x10 x12).f2) ((rd_T51 x10 x12).f3) ((rd_T51 x10 x12).f4) ((rd_T51 x10 x12).f5)).bind fun bt240 => (if x238000.length < 1466015503701 then (impl_copyTab.l0 k x10 x11 (wrap64 (x12 + 1)) (x238000 ++ [(⟨bt240.1, bt240.2.1, bt240.2.2.1, bt240.2.2.2.1, bt240.2.2.2.2.1, bt240.2.2.2.2.2⟩ : S51)]) x238001) else (none))) else (none)) else (none)) else (some (x238000, x238001))
def impl_copyTab.f (k : Nat) (l0_0 : List (S51)) (a0_1 : Int) : Option ((List (S51)) × Int) := impl_copyTab.l0 k l0_0 (l0_0.length : Int) 0 ([] : List (S51)) a0_1
def impl_copyTab.T5 : Bool × List (List Nat × List Nat) := (true, [([], []), ([0], [0]), ([], []), ([2], [2]), ([3], [3]), ([1, 4, 3], [1, 4]), ([0, 1, 2, 3, 4, 5], []), ([6, 5, 5, 0, 1, 2, 3, 4, 5], [5, 6])])
def impl_copyTab.B5 : List Nat := [0, 1, 0, 4, 12, 31, 63, 127]
theorem impl_copyTab.tab5 : rtab .any (opsOf Tryz.f45 5) = impl_copyTab.T5 := by kernel_rfl
theorem impl_copyTab.bits5 : waitsOk impl_copyTab.T5.2 impl_copyTab.B5 = true := by kernel_rfl
set_option maxHeartbeats 8000000 in
set_option maxRecDepth 100000 in
theorem impl_copyTab.calls (k : Nat) (A0_0 : Option Addr) (c0_0 : Nat) (l0_0 : List (S51)) (a0_1 : Int) (r1 : List (S51)) (r2 : Int) (w : World) (hr0_0 : Kd.C k51 w A0_0 l0_0.length l0_0) (hc0_0 : l0_0.length ≤ c0_0) (h : impl_copyTab.f k l0_0 a0_1 = some (r1, r2)) :
  Calls Tryz.prog 45 #[.agg #[.slice A0_0 l0_0.length c0_0, .int .i64 a0_1]] w fun e w' => ∃ v0_ : Value, e = .returned (.agg #[v0_, .int .i64 r2]) ∧ Kd.S k51 51 w' w.heap.size (fun _ => True) v0_ r1 ∧ Below w.heap.size w w' := by
 have hu26 := Tryz.underlying26
 have hu51 := Tryz.underlying51
 have HR0_0 := Aside0.mk hr0_0
 have HC0_0 := Aside0.mk hc0_0
 clear hr0_0 hc0_0
 have HB := Aside0.mk (Below.refl w.heap.size w)
 unfold impl_copyTab.f at h
 have H := h
 clear h
 have H' := Aside0.mk H
 clear H
 go_enter Tryz.func45, Tryz.ntmps45
 go_wp2_with (first | ((with_reducible refine gate_dst (N := 1) rfl ?_); refine bx_ 1 #[.slice A0_0 l0_0.length c0_0, .int .i64 a0_1] 26 ?_; intro gb235 hg w2 hbox hb; have BK235 := Aside0.mk (hbox); have GW235 := gs_ hg; replace HB := Aside0.mk (below_step oB hb); clear hb hbox hg) | ((with_reducible refine gate_dst (N := 2) rfl ?_); refine bx_ 2 #[.slice none 0 0, .int .i64 0] 26 ?_; intro gb236 hg w3 hbox hb; have BK236 := Aside0.mk (hbox); have GW236 := gs_ hg; have NB235_236 := nl_ hg BK235; have NB236_235 := nr_ hg BK235; replace BK235 := kb_ BK235 hb; replace HB := Aside0.mk (below_step oB hb); clear hb hbox hg; have hnb4 := NB235_236.out; have hnc4 := NB236_235.out; obtain ⟨⟨_, _⟩, _, _⟩ := z2 BK235) | ((with_reducible refine gate_dst (N := 3) rfl ?_); refine bx_ 3 #[.slice none 0 0, .int .i64 0] 26 ?_; intro gb237 hg w6 hbox hb; have BK237 := Aside0.mk (hbox); have GW237 := gs_ hg; have NB235_237 := nl_ hg BK235; have NB237_235 := nr_ hg BK235; have NB236_237 := nl_ hg BK236; have NB237_236 := nr_ hg BK236; replace BK235 := kb_ BK235 hb; replace BK236 := kb_ BK236 hb; replace HB := Aside0.mk (below_step oB hb); clear hb hbox hg; have hnb7 := NB237_235.out; have hnc7 := NB235_237.out; have hnb8 := NB237_236.out; have hnc8 := NB236_237.out; obtain ⟨⟨_, _⟩, _, _⟩ := z2 BK237; obtain ⟨⟨_, _⟩, _, _⟩ := z2 BK235))
 go_loopg [12] k (fun kq v12 w' => ∃ (x12_1 : Int) (x238000_1 : List (S51)) (u238000 : Value), v12 = .int .i64 x12_1 ∧ Aside0 (impl_copyTab.l0 kq l0_0 (l0_0.length : Int) x12_1 x238000_1 a0_1 = some (r1, r2)) ∧ Aside0 (kq ≤ k) ∧ Aside0 (Kd.S k51 51 w' w.heap.size (fun _ => True) u238000 x238000_1) ∧ Aside0 (w'.heap[gb235]? = some (.cells #[(.slice A0_0 l0_0.length c0_0), .int .i64 a0_1] 26 (0, 0))) ∧ Aside0 (w'.heap[gb236]? = some (.cells #[(.slice none 0 0), .int .i64 0] 26 (0, 0))) ∧ Aside0 (w'.heap[gb237]? = some (.cells #[u238000, .int .i64 a0_1] 26 (0, 0))) ∧ Aside0 (Below w.heap.size w w'))
 case atStart => exact ⟨(0), (([] : List (S51))), (.slice none 0 0), oS, H', ⟨Nat.le_refl _⟩, ⟨by first | exact Kd.S_nil _ _ _ _ _ | exact Kd.N_nil _ _ _ _ _ | exact Kd.V_nil _ _ _ _ _ | exact Kd.Q_nil _ _ _ _ _ | exact Kd.R_nil _ _ _ _ _⟩, ⟨oF BK235⟩, ⟨oF BK236⟩, ⟨oP BK237⟩, ⟨oB⟩⟩
 case round =>
  clear H'
  obtain ⟨x12_1, x238000_1, u238000, rfl, HA, HK1, HO_238000, BK235, BK236, BK237, HB⟩ := hrel
  cases gk with
  | zero => exact absurd HA.out (by simp [impl_copyTab.l0])
  | succ k1 =>
   have H := HA.out
   clear HA
   simp only [impl_copyTab.l0] at H
   replace H := itD H
   rcases H with ⟨c11b0, H⟩ | ⟨c11b0, H⟩
   ·replace H := itD H
    rcases H with ⟨c12b0, H⟩ | ⟨c12b0, H⟩
    ·replace H := itD H
     rcases H with ⟨c13b0, H⟩ | ⟨c13b0, H⟩
     ·replace H := bA H
      obtain ⟨⟨t240, t241, t242, t243, t246, t249⟩, A14, H⟩ := H
      try dsimp only at H
      by_cases c15 : x238000_1.length < 1466015503701
      ·rw [if_pos c15] at H
       have LMc15 := Aside0.mk c15
       clear c15
       obtain ⟨y252, hy252⟩ : ∃ y_ : List (S51), y_ = (x238000_1 ++ [(⟨t240, t241, t242, t243, t246, t249⟩ : S51)]) := ⟨_, rfl⟩
       replace H : (impl_copyTab.l0 k1 l0_0 (l0_0.length : Int) (wrap64 (x12_1 + 1)) y252 a0_1) = some (r1, r2) := by first | (rw [hy252]; with_reducible exact H) | (have H2_ := (Option.bind_some _ _).symm.trans H; rw [hy252]; with_reducible exact H2_) | (have H2_ := (Option.bind_some _ _).symm.trans H; with_reducible exact H2_) | with_reducible exact H | (rw [hy252]; exact H) | exact H
       have Ny252 := Aside0.mk hy252
       clear hy252
       have H' := Aside0.mk H
       clear H
       have p238 : (0 ≤ (x12_1 : Int)) = True := oT
       have q238 : (x12_1 < (l0_0.length : Int)) = True := oT
       obtain ⟨ad238, A238_3, c238_3, A238_4, c238_4, A238_5, c238_5, e238, hx238_0, hx238_1, hx238_2, hx238_3, hx238_4, hx238_5, hl238_3, hi238_3, hl238_4, hi238_4, hl238_5, hi238_5⟩ := at_T51 HR0_0.out x12_1 oa oa
       cases e238
       replace hx238_0 := cB HB hx238_0
       replace hx238_1 := cB HB hx238_1
       replace hx238_2 := cB HB hx238_2
       replace hx238_3 := cB HB hx238_3
       replace hx238_4 := cB HB hx238_4
       replace hx238_5 := cB HB hx238_5
       have HR238_3 := Aside0.mk hi238_3
       have HC238_3 := Aside0.mk hl238_3
       clear hi238_3 hl238_3
       have HR238_4 := Aside0.mk hi238_4
       have HC238_4 := Aside0.mk hl238_4
       clear hi238_4 hl238_4
       have HR238_5 := Aside0.mk hi238_5
       have HC238_5 := Aside0.mk hl238_5
       clear hi238_5 hl238_5
       try go_wp2_with (first | ((with_reducible refine gate_dst (N := 5) rfl ?_); refine bx_ 5 #[.int .i64 0, .int .i64 0, .int .i64 0, .slice none 0 0, .slice none 0 0, .slice none 0 0] 51 ?_; intro gb239 hg w16 hbox hb; have BK239 := Aside0.mk (hbox); have GW239 := gs_ hg; have NB235_239 := nl_ hg BK235; have NB239_235 := nr_ hg BK235; have NB236_239 := nl_ hg BK236; have NB239_236 := nr_ hg BK236; have NB237_239 := nl_ hg BK237; have NB239_237 := nr_ hg BK237; replace HO_238000 := Aside0.mk (Kd.S_below (Kd.S_elderB (nS0 HO_238000) gb239 (Nat.le_of_eq hg.symm)) hb); replace BK235 := kb_ BK235 hb; replace BK236 := kb_ BK236 hb; replace BK237 := kb_ BK237 hb; replace HB := Aside0.mk (below_step oB hb); clear hb hbox hg; have hnb17 := NB239_235.out; have hnc17 := NB235_239.out; have hnb18 := NB239_236.out; have hnc18 := NB236_239.out; have hnb19 := NB239_237.out; have hnc19 := NB237_239.out; obtain ⟨⟨_, _, _, _, _, _⟩, _, _, _, _, _, _⟩ := z6 BK239))
       have n0_ : Aside0 (Kd.S k51 51 ((((((w16.setCell ⟨gb239, 0, none⟩ (.int .i64 ((rd_T51 l0_0 x12_1).f0))).setCell ⟨gb239, 1, none⟩ (.int .i64 ((rd_T51 l0_0 x12_1).f1))).setCell ⟨gb239, 2, none⟩ (.int .i64 ((rd_T51 l0_0 x12_1).f2))).setCell ⟨gb239, 3, none⟩ (.slice A238_3 ((rd_T51 l0_0 x12_1).f3).length c238_3)).setCell ⟨gb239, 4, none⟩ (.slice A238_4 ((rd_T51 l0_0 x12_1).f4).length c238_4)).setCell ⟨gb239, 5, none⟩ (.slice A238_5 ((rd_T51 l0_0 x12_1).f5).length c238_5)) w.heap.size (fun k_ => k_ ≠ gb239) u238000 x238000_1) := ⟨by (with_reducible repeat (first | apply Kd.S_alloc | apply Kd.S_drewN | apply Kd.S_drew)); exact Kd.S_mono (Kd.S_far (p := ⟨gb239, 5, none⟩) (Kd.S_far (p := ⟨gb239, 4, none⟩) (Kd.S_far (p := ⟨gb239, 3, none⟩) (Kd.S_far (p := ⟨gb239, 2, none⟩) (Kd.S_far (p := ⟨gb239, 1, none⟩) (Kd.S_far (p := ⟨gb239, 0, none⟩) (Kd.S_mono HO_238000.out (fun k_ hk => (⟨hk, hk.2⟩ : _ ∧ k_ ≠ gb239))) (fun _ hk => hk.2) (.int .i64 ((rd_T51 l0_0 x12_1).f0))) (fun _ hk => hk.2) (.int .i64 ((rd_T51 l0_0 x12_1).f1))) (fun _ hk => hk.2) (.int .i64 ((rd_T51 l0_0 x12_1).f2))) (fun _ hk => hk.2) (.slice A238_3 ((rd_T51 l0_0 x12_1).f3).length c238_3)) (fun _ hk => hk.2) (.slice A238_4 ((rd_T51 l0_0 x12_1).f4).length c238_4)) (fun _ hk => hk.2) (.slice A238_5 ((rd_T51 l0_0 x12_1).f5).length c238_5)) (fun _ hk => hk.1.2)⟩
       have n1_ : Aside0 (((((((w16.setCell ⟨gb239, 0, none⟩ (.int .i64 ((rd_T51 l0_0 x12_1).f0))).setCell ⟨gb239, 1, none⟩ (.int .i64 ((rd_T51 l0_0 x12_1).f1))).setCell ⟨gb239, 2, none⟩ (.int .i64 ((rd_T51 l0_0 x12_1).f2))).setCell ⟨gb239, 3, none⟩ (.slice A238_3 ((rd_T51 l0_0 x12_1).f3).length c238_3)).setCell ⟨gb239, 4, none⟩ (.slice A238_4 ((rd_T51 l0_0 x12_1).f4).length c238_4)).setCell ⟨gb239, 5, none⟩ (.slice A238_5 ((rd_T51 l0_0 x12_1).f5).length c238_5)).heap[gb235]? = some (.cells #[.slice (some ad238) l0_0.length c0_0, .int .i64 a0_1] 26 (0, 0))) := ⟨oF BK235⟩
       have n2_ : Aside0 (((((((w16.setCell ⟨gb239, 0, none⟩ (.int .i64 ((rd_T51 l0_0 x12_1).f0))).setCell ⟨gb239, 1, none⟩ (.int .i64 ((rd_T51 l0_0 x12_1).f1))).setCell ⟨gb239, 2, none⟩ (.int .i64 ((rd_T51 l0_0 x12_1).f2))).setCell ⟨gb239, 3, none⟩ (.slice A238_3 ((rd_T51 l0_0 x12_1).f3).length c238_3)).setCell ⟨gb239, 4, none⟩ (.slice A238_4 ((rd_T51 l0_0 x12_1).f4).length c238_4)).setCell ⟨gb239, 5, none⟩ (.slice A238_5 ((rd_T51 l0_0 x12_1).f5).length c238_5)).heap[gb236]? = some (.cells #[.slice none 0 0, .int .i64 0] 26 (0, 0))) := ⟨oF BK236⟩
       have n3_ : Aside0 (((((((w16.setCell ⟨gb239, 0, none⟩ (.int .i64 ((rd_T51 l0_0 x12_1).f0))).setCell ⟨gb239, 1, none⟩ (.int .i64 ((rd_T51 l0_0 x12_1).f1))).setCell ⟨gb239, 2, none⟩ (.int .i64 ((rd_T51 l0_0 x12_1).f2))).setCell ⟨gb239, 3, none⟩ (.slice A238_3 ((rd_T51 l0_0 x12_1).f3).length c238_3)).setCell ⟨gb239, 4, none⟩ (.slice A238_4 ((rd_T51 l0_0 x12_1).f4).length c238_4)).setCell ⟨gb239, 5, none⟩ (.slice A238_5 ((rd_T51 l0_0 x12_1).f5).length c238_5)).heap[gb237]? = some (.cells #[u238000, .int .i64 a0_1] 26 (0, 0))) := ⟨oF BK237⟩
       have n4_ : Aside0 (((((((w16.setCell ⟨gb239, 0, none⟩ (.int .i64 ((rd_T51 l0_0 x12_1).f0))).setCell ⟨gb239, 1, none⟩ (.int .i64 ((rd_T51 l0_0 x12_1).f1))).setCell ⟨gb239, 2, none⟩ (.int .i64 ((rd_T51 l0_0 x12_1).f2))).setCell ⟨gb239, 3, none⟩ (.slice A238_3 ((rd_T51 l0_0 x12_1).f3).length c238_3)).setCell ⟨gb239, 4, none⟩ (.slice A238_4 ((rd_T51 l0_0 x12_1).f4).length c238_4)).setCell ⟨gb239, 5, none⟩ (.slice A238_5 ((rd_T51 l0_0 x12_1).f5).length c238_5)).heap[gb239]? = some (.cells #[.int .i64 ((rd_T51 l0_0 x12_1).f0), .int .i64 ((rd_T51 l0_0 x12_1).f1), .int .i64 ((rd_T51 l0_0 x12_1).f2), .slice A238_3 ((rd_T51 l0_0 x12_1).f3).length c238_3, .slice A238_4 ((rd_T51 l0_0 x12_1).f4).length c238_4, .slice A238_5 ((rd_T51 l0_0 x12_1).f5).length c238_5] 51 (0, 0))) := ⟨oP BK239⟩
       have n5_ : Aside0 (Below w.heap.size w ((((((w16.setCell ⟨gb239, 0, none⟩ (.int .i64 ((rd_T51 l0_0 x12_1).f0))).setCell ⟨gb239, 1, none⟩ (.int .i64 ((rd_T51 l0_0 x12_1).f1))).setCell ⟨gb239, 2, none⟩ (.int .i64 ((rd_T51 l0_0 x12_1).f2))).setCell ⟨gb239, 3, none⟩ (.slice A238_3 ((rd_T51 l0_0 x12_1).f3).length c238_3)).setCell ⟨gb239, 4, none⟩ (.slice A238_4 ((rd_T51 l0_0 x12_1).f4).length c238_4)).setCell ⟨gb239, 5, none⟩ (.slice A238_5 ((rd_T51 l0_0 x12_1).f5).length c238_5))) := ⟨oB⟩
       (try clear HO_238000)
       (try clear BK235)
       (try clear BK236)
       (try clear BK237)
       (try clear BK239)
       (try clear HB)
       generalize ((((((w16.setCell ⟨gb239, 0, none⟩ (.int .i64 ((rd_T51 l0_0 x12_1).f0))).setCell ⟨gb239, 1, none⟩ (.int .i64 ((rd_T51 l0_0 x12_1).f1))).setCell ⟨gb239, 2, none⟩ (.int .i64 ((rd_T51 l0_0 x12_1).f2))).setCell ⟨gb239, 3, none⟩ (.slice A238_3 ((rd_T51 l0_0 x12_1).f3).length c238_3)).setCell ⟨gb239, 4, none⟩ (.slice A238_4 ((rd_T51 l0_0 x12_1).f4).length c238_4)).setCell ⟨gb239, 5, none⟩ (.slice A238_5 ((rd_T51 l0_0 x12_1).f5).length c238_5)) = w21 at n0_ n1_ n2_ n3_ n4_ n5_ ⊢
       have HO_238000 := n0_
       have BK235 := n1_
       have BK236 := n2_
       have BK237 := n3_
       have BK239 := n4_
       have HB := n5_
       clear n0_ n1_ n2_ n3_ n4_ n5_
       replace HO_238000 := Aside0.mk (Kd.S_drew HO_238000.out)
       replace BK235 := Aside0.mk (blk_drew BK235.out)
       replace BK236 := Aside0.mk (blk_drew BK236.out)
       replace BK237 := Aside0.mk (blk_drew BK237.out)
       replace BK239 := Aside0.mk (blk_drew BK239.out)
       replace HB := Aside0.mk (below_drew1 HB.out)
       refine start_ (n := 8) (S := fun w' => w'.cell? ⟨gb237, 0, none⟩ = some (u238000) ∧ w'.cell? ⟨gb237, 1, none⟩ = some (.int .i64 a0_1) ∧ w'.cell? ⟨gb239, 0, none⟩ = some (.int .i64 ((rd_T51 l0_0 x12_1).f0)) ∧ w'.cell? ⟨gb239, 1, none⟩ = some (.int .i64 ((rd_T51 l0_0 x12_1).f1)) ∧ w'.cell? ⟨gb239, 2, none⟩ = some (.int .i64 ((rd_T51 l0_0 x12_1).f2)) ∧ w'.cell? ⟨gb239, 3, none⟩ = some (.slice A238_3 ((rd_T51 l0_0 x12_1).f3).length c238_3) ∧ w'.cell? ⟨gb239, 4, none⟩ = some (.slice A238_4 ((rd_T51 l0_0 x12_1).f4).length c238_4) ∧ w'.cell? ⟨gb239, 5, none⟩ = some (.slice A238_5 ((rd_T51 l0_0 x12_1).f5).length c238_5)) (ds := [7]) (lb 8 0) (by kernel_rfl) rfl rfl oH (fun hHeld => ?_); refine with_tabW impl_copyTab.tab5 impl_copyTab.bits5 (fun HT_ HW_ => ?_)
       generalize w21.drew = w22 at HO_238000 BK235 BK236 BK237 BK239 HB hHeld ⊢
       refine pu_ 0 16 HT_ ?_
       refine ta_ 1 17 HT_ HW_ hHeld ?_
       refine ta_ 2 18 HT_ HW_ hHeld ?_
       refine on_ 3 19 HT_ (fun K hK => ?_)
       refine gr_ 19 Tryz.func71 (impl_copyInode.calls ((rd_T51 l0_0 x12_1).f0) ((rd_T51 l0_0 x12_1).f1) ((rd_T51 l0_0 x12_1).f2) _ _ ((rd_T51 l0_0 x12_1).f3) _ _ ((rd_T51 l0_0 x12_1).f4) _ _ ((rd_T51 l0_0 x12_1).f5) t240 t241 t242 t243 t246 t249 _ (kC HR238_3) HC238_3.out (kC HR238_4) HC238_4.out (kC HR238_5) HC238_5.out A14.out) ?_
       rintro e w23 ⟨v244, v247, v250, rfl, ho0, ho1, ho2, hb⟩
       refine ⟨_, rfl, ?_⟩
       have HO245 := Aside0.mk (Kd.R_lower ho0 (below_size oB))
       have HO248 := Aside0.mk (Kd.R_lower ho1 (below_size oB))
       have HO251 := Aside0.mk (Kd.R_lower ho2 (below_size oB))
       replace HO_238000 := tdS3 (olS0 HO_238000 hb) (Kd.R_base ho0) (Kd.R_base ho1) (Kd.R_base ho2)
       replace BK235 := kb_ BK235 hb
       replace BK236 := kb_ BK236 hb
       replace BK237 := kb_ BK237 hb
       replace BK239 := kb_ BK239 hb
       replace HB := Aside0.mk (below_step oB hb)
       (try clear ho1)
       (try clear ho2)
       obtain ⟨Ao25, co25, eo25⟩ := Kd.R_slice HO245.out
       (first | subst eo25 | (injection eo25 with f1_ f2_ f3_; have f4_ := f1_.symm; have f5_ := f3_.symm; clear f1_ f2_ f3_; subst f4_; subst f5_))
       obtain ⟨Ao26, co26, eo26⟩ := Kd.R_slice HO248.out
       (first | subst eo26 | (injection eo26 with f1_ f2_ f3_; have f4_ := f1_.symm; have f5_ := f3_.symm; clear f1_ f2_ f3_; subst f4_; subst f5_))
       obtain ⟨Ao27, co27, eo27⟩ := Kd.R_slice HO251.out
       (first | subst eo27 | (injection eo27 with f1_ f2_ f3_; have f4_ := f1_.symm; have f5_ := f3_.symm; clear f1_ f2_ f3_; subst f4_; subst f5_))
       refine hk_ hK 19 oH (fun hHeld => ?_)
       clear hK K
       refine on_ 4 20 HT_ (fun K hK => ?_)
       refine value_ (w1 := ?_) (v := ?_) (by rfl) rfl ?_ ?_
       rotate_left 2
       ·go_simp
        constructor
        ·rfl
        ·rfl
       refine hk_ hK 20 ⟨(blk_cell (blk_alloc BK237.out _) 0).trans rfl, (blk_cell (blk_alloc BK237.out _) 1).trans rfl, (blk_cell (blk_alloc BK239.out _) 0).trans rfl, (blk_cell (blk_alloc BK239.out _) 1).trans rfl, (blk_cell (blk_alloc BK239.out _) 2).trans rfl, (blk_cell (blk_alloc BK239.out _) 3).trans rfl, (blk_cell (blk_alloc BK239.out _) 4).trans rfl, (blk_cell (blk_alloc BK239.out _) 5).trans rfl⟩ (fun hHeld => ?_)
       clear hK K
       refine on_ 5 21 HT_ (fun K hK => ?_)
       refine Kd.S_append_step k51 (w0 := w) w.heap.size (by rfl) (.tmp 17) (.tmp 20) 24 51 (.agg #[(.int .i64 0), (.int .i64 0), (.int .i64 0), (.slice none 0 0), (.slice none 0 0), (.slice none 0 0)]) 96 rfl Tryz.underlying24 info51 rfl (by decide) (by omega) u238000 x238000_1 (⟨t240, t241, t242, t243, t246, t249⟩ : S51) [.int .i64 t240, .int .i64 t241, .int .i64 t242, .slice Ao25 t243.length co25, .slice Ao26 t246.length co26, .slice Ao27 t249.length co27] (fun k_ => k_ ≠ gb239) (fun k_ => some k_ = (.slice Ao25 t243.length co25 : Value).ownBlock ∨ some k_ = (.slice Ao26 t246.length co26 : Value).ownBlock ∨ some k_ = (.slice Ao27 t249.length co27 : Value).ownBlock) rfl rfl ?aP (fun k_ hk_ => hk_.elim (fun h_ => ((Kd.R_mono (ok' := fun k_ => ((fun k_ => k_ ≠ gb239)) k_ ∧ some k_ ≠ (u238000 : Value).ownBlock) (Kd.R_types (Kd.R_apart' (HO245.out) (Kd.S_typed HO_238000.out) (by decide)) BK239.out (by decide)) (fun k_ hk => ⟨hk.2, hk.1.2⟩))).1 k_ h_.symm) (fun h_ => h_.elim (fun h_ => ((Kd.R_mono (ok' := fun k_ => ((fun k_ => k_ ≠ gb239)) k_ ∧ some k_ ≠ (u238000 : Value).ownBlock) (Kd.R_types (Kd.R_apart' (HO248.out) (Kd.S_typed HO_238000.out) (by decide)) BK239.out (by decide)) (fun k_ hk => ⟨hk.2, hk.1.2⟩))).1 k_ h_.symm) (fun h_ => ((Kd.R_mono (ok' := fun k_ => ((fun k_ => k_ ≠ gb239)) k_ ∧ some k_ ≠ (u238000 : Value).ownBlock) (Kd.R_types (Kd.R_apart' (HO251.out) (Kd.S_typed HO_238000.out) (by decide)) BK239.out (by decide)) (fun k_ hk => ⟨hk.2, hk.1.2⟩))).1 k_ h_.symm))) ?aF ?aO ?aB ?aS ?aL ?_
       (case aP => exact k51_mkM _ _ _ (⟨t240, t241, t242, t243, t246, t249⟩ : S51) (Kd.R_mono (Kd.R_tight rfl (Kd.R_mono (ok' := fun k_ => ((fun k_ => k_ ≠ gb239)) k_ ∧ some k_ ≠ (u238000 : Value).ownBlock) (Kd.R_types (Kd.R_apart' (HO245.out) (Kd.S_typed HO_238000.out) (by decide)) BK239.out (by decide)) (fun k_ hk => ⟨hk.2, hk.1.2⟩))) (fun _ h_ => Or.inl h_)) (Kd.R_mono (Kd.R_tight rfl (Kd.R_mono (ok' := fun k_ => ((fun k_ => k_ ≠ gb239)) k_ ∧ some k_ ≠ (u238000 : Value).ownBlock) (Kd.R_types (Kd.R_apart' (HO248.out) (Kd.S_typed HO_238000.out) (by decide)) BK239.out (by decide)) (fun k_ hk => ⟨hk.2, hk.1.2⟩))) (fun _ h_ => Or.inr (Or.inl h_))) (Kd.R_mono (Kd.R_tight rfl (Kd.R_mono (ok' := fun k_ => ((fun k_ => k_ ≠ gb239)) k_ ∧ some k_ ≠ (u238000 : Value).ownBlock) (Kd.R_types (Kd.R_apart' (HO251.out) (Kd.S_typed HO_238000.out) (by decide)) BK239.out (by decide)) (fun k_ hk => ⟨hk.2, hk.1.2⟩))) (fun _ h_ => Or.inr (Or.inr (h_)))))
       (case aB => exact oB)
       (case aF => exact (fun k_ hk => Kd.freshB (g := gb239) (o := .cells #[.int .i64 ((rd_T51 l0_0 x12_1).f0), .int .i64 ((rd_T51 l0_0 x12_1).f1), .int .i64 ((rd_T51 l0_0 x12_1).f2), .slice A238_3 ((rd_T51 l0_0 x12_1).f3).length c238_3, .slice A238_4 ((rd_T51 l0_0 x12_1).f4).length c238_4, .slice A238_5 ((rd_T51 l0_0 x12_1).f5).length c238_5] 51 (0, 0)) (oF BK239) k_ hk))
       (case aO => exact (by (with_reducible repeat (first | apply Kd.S_alloc | apply Kd.S_drewN | apply Kd.S_drew)); exact Kd.S_mono HO_238000.out (fun k_ hk => ⟨hk.1.1.1, fun e_ => e_.elim (fun h_ => hk.1.1.2 h_) (fun h_ => h_.elim (fun h_ => hk.1.2 h_) (fun h_ => hk.2 h_))⟩)))
       (case aS => exact (below_size oB))
       (case aL => have := LMc15.out; omega)
       intro v253 w24 ho hb hg hat
       rw [← Ny252.out] at ho
       have HO254 := Aside0.mk (ho)
       replace BK235 := Aside0.mk (blk_grown (g := gb235) (o := .cells #[.slice (some ad238) l0_0.length c0_0, .int .i64 a0_1] 26 (0, 0)) (oF BK235) hg (Kd.S_ne HO_238000.out BK235.out (by decide)))
       replace BK236 := Aside0.mk (blk_grown (g := gb236) (o := .cells #[.slice none 0 0, .int .i64 0] 26 (0, 0)) (oF BK236) hg (Kd.S_ne HO_238000.out BK236.out (by decide)))
       replace BK237 := Aside0.mk (blk_grown (g := gb237) (o := .cells #[u238000, .int .i64 a0_1] 26 (0, 0)) (oF BK237) hg (Kd.S_ne HO_238000.out BK237.out (by decide)))
       replace BK239 := Aside0.mk (blk_grown (g := gb239) (o := .cells #[.int .i64 ((rd_T51 l0_0 x12_1).f0), .int .i64 ((rd_T51 l0_0 x12_1).f1), .int .i64 ((rd_T51 l0_0 x12_1).f2), .slice A238_3 ((rd_T51 l0_0 x12_1).f3).length c238_3, .slice A238_4 ((rd_T51 l0_0 x12_1).f4).length c238_4, .slice A238_5 ((rd_T51 l0_0 x12_1).f5).length c238_5] 51 (0, 0)) (oF BK239) hg (Kd.S_away HO_238000.out (fun _ hk => hk.1.1.1)))
       replace HB := Aside0.mk (hb)
       clear HO_238000
       clear HO245
       clear HO248
       clear HO251
       clear ho hb hg hat
       obtain ⟨Ao28, co28, eo28⟩ := Kd.S_slice HO254.out
       (first | subst eo28 | (injection eo28 with f1_ f2_ f3_; have f4_ := f1_.symm; have f5_ := f3_.symm; clear f1_ f2_ f3_; subst f4_; subst f5_))
       refine hk_ hK 21 oH (fun hHeld => ?_)
       clear hK K
       refine pu_ 6 22 HT_ ?_
       refine last_ (i := 7) (N := none) (lb 8 255) rfl rfl (one_of HT_.out (by kernel_rfl)) (by decide) (fun K hK => ?_)
       have hs29 : w24.cell? ⟨gb237, 0, none⟩ = some (u238000) := (blk_cell BK237.out 0).trans rfl
       have hfs29 := blk_frozen BK237.out 0
       have hns29_0 := NB235_237.out
       have hns29_1 := NB236_237.out
       have hns29_3 := NB239_237.out
       have hms29_0 := NB237_235.out
       have hms29_1 := NB237_236.out
       have hms29_3 := NB237_239.out
       refine skip_ (w1 := ?_) (by rfl) rfl ?_ ?_
       rotate_left
       ·go_simp
        rfl
       refine hK.out _ _ ?_
       clear hK K
       refine dn_ HT_ ?_
       try go_wp2
       go_roundg k1
       case measure => have := HK1.out; omega
       case rel => exact ⟨(wrap64 (x12_1 + 1)), (y252), (.slice Ao28 y252.length co28), oS, H', ⟨by have := HK1.out; omega⟩, ⟨by (with_reducible repeat (first | apply Kd.S_alloc | apply Kd.S_drewN | apply Kd.S_drew)); exact Kd.S_mono (Kd.S_far (p := ⟨gb237, 0, none⟩) (Kd.S_types HO254.out BK237.out (by decide)) (fun _ hk => hk.2) (.slice Ao28 y252.length co28)) (fun _ hk => trivial)⟩, ⟨oF BK235⟩, ⟨oF BK236⟩, ⟨oP BK237⟩, ⟨oB⟩⟩
      ·rw [if_neg c15] at H
       exact absurd H (by simp)
     ·cases H
    ·cases H
   ·simp only [Option.some.injEq, Prod.mk.injEq] at H
    obtain ⟨rfl, rfl⟩ := H
    have hnb30 := NB237_235.out
    have hnc30 := NB235_237.out
    have hnb31 := NB237_236.out
    have hnc31 := NB236_237.out
    obtain ⟨⟨_, _⟩, _, _⟩ := z2 BK237
    obtain ⟨Ao33, co33, eo33⟩ := Kd.S_slice HO_238000.out
    subst eo33
    have hnb34 := NB236_235.out
    have hnc34 := NB235_236.out
    obtain ⟨⟨_, _⟩, _, _⟩ := z2 BK236
    go_wp2
    refine bodyPost_ret (results_cell_row rfl _ _ gb236 26 #[.slice Ao33 x238000_1.length co33, .int .i64 a0_1] (0, 0) _ rfl (oP BK236) Tryz.underlying26 rfl (by kernel_rfl)) rfl ?_
    exact ⟨_, oE, by (with_reducible repeat (first | apply Kd.S_alloc | apply Kd.S_drewN | apply Kd.S_drew)); exact Kd.S_mono (Kd.S_far (p := ⟨gb236, 1, none⟩) (Kd.S_far (p := ⟨gb236, 0, none⟩) (Kd.S_types HO_238000.out BK236.out (by decide)) (fun _ hk => hk.2) (.slice Ao33 x238000_1.length co33)) (fun _ hk => hk.2) (.int .i64 a0_1)) (fun _ hk => trivial), oB⟩

/-! ### impl_SplitPath: function 16 -/
def impl_SplitPath.f (k : Nat) (a0 : ByteArray) : Option (List ByteArray × Bool) := if a0.toList = ([47] : List UInt8) then (some (([] : List ByteArray), true)) else ((strings_Split.f a0 (⟨#[47]⟩ : ByteArray)).bind fun t255 => (if 0 < (t255.length : Int) then (if (rdOf ByteArray.empty t255 0).toList = ([] : List UInt8) then (if (t255.length : Int) < 2 then (some (([] : List ByteArray), false)) else (if 1 ≤ (t255.length : Int) then ((impl_namesOk.f k (t255.drop 1)).bind fun t263 => (if t263 = true then (some ((t255.drop (1 : Int).toNat), true)) else (some (([] : List ByteArray), false)))) else (none))) else (some (([] : List ByteArray), false))) else (none)))
set_option maxHeartbeats 8000000 in
set_option maxRecDepth 100000 in
theorem impl_SplitPath.calls (k : Nat) (a0 : ByteArray) (r1 : List ByteArray) (r2 : Bool) (w : World) (h : impl_SplitPath.f k a0 = some (r1, r2)) (hG : GOk w := by exact gk_ oB (by first | (with_reducible assumption) | assumption)) :
  Calls Tryz.prog 16 #[.string a0] w fun e w' => ∃ v0_ : Value, e = .returned (.tuple #[v0_, .bool r2]) ∧ Kd.Q Kd.string 9 w' w.heap.size (fun _ => True) v0_ r1 ∧ Below w.heap.size w w' := by
 have HG := Aside0.mk hG
 clear hG
 have HB := Aside0.mk (Below.refl w.heap.size w)
 unfold impl_SplitPath.f at h
 have H := h
 clear h
 by_cases c2 : a0.toList = ([47] : List UInt8)
 ·rw [if_pos c2] at H
  have c2b0 : (a0.toList == ([47] : List UInt8)) = true := beq_iff_eq.mpr c2
  have c2b1 : (a0.toList != ([47] : List UInt8)) = false := bne_eq_false_iff_eq.mpr c2
  clear c2
  simp only [Option.some.injEq, Prod.mk.injEq] at H
  obtain ⟨rfl, rfl⟩ := H
  go_enter Tryz.func16, Tryz.ntmps16
  go_wp2
  go_ret2
  exact ⟨_, oE, Kd.Q_of_R (by first | exact Kd.R_nil _ _ _ _ _ | exact Kd.N_nil _ _ _ _ _ | exact Kd.V_nil _ _ _ _ _ | exact Kd.Q_nil _ _ _ _ _ | exact Kd.S_nil _ _ _ _ _), oB⟩
 ·rw [if_neg c2] at H
  have c2b0 : (a0.toList == ([47] : List UInt8)) = false := beq_eq_false_iff_ne.mpr c2
  have c2b1 : (a0.toList != ([47] : List UInt8)) = true := bne_iff_ne.mpr c2
  replace H := bA H
  obtain ⟨t255, A3, H⟩ := H
  try dsimp only at H
  by_cases c4 : 0 < (t255.length : Int)
  ·rw [if_pos c4] at H
   have c4b0 : decide (0 < (t255.length : Int)) = true := decide_eq_true c4
   have c4b1 : decide (0 < t255.length) = true := decide_eq_true (by omega)
   clear c4
   by_cases c5 : (rdOf ByteArray.empty t255 0).toList = ([] : List UInt8)
   ·rw [if_pos c5] at H
    have c5b0 : ((rdOf ByteArray.empty t255 0).toList == ([] : List UInt8)) = true := beq_iff_eq.mpr c5
    have c5b1 : ((rdOf ByteArray.empty t255 0).toList != ([] : List UInt8)) = false := bne_eq_false_iff_eq.mpr c5
    clear c5
    by_cases c6 : (t255.length : Int) < 2
    ·rw [if_pos c6] at H
     have c6b0 : decide ((t255.length : Int) < 2) = true := decide_eq_true c6
     have c6b1 : decide (t255.length < 2) = true := decide_eq_true (by omega)
     clear c6
     simp only [Option.some.injEq, Prod.mk.injEq] at H
     obtain ⟨rfl, rfl⟩ := H
     go_enter Tryz.func16, Tryz.ntmps16
     go_wp2_with (first | ((with_reducible refine gate_callee (f := 36) rfl ?_); refine gl_ 8 Tryz.func36 (strings_Split.calls a0 (⟨#[47]⟩ : ByteArray) t255 _ A3.out) ?_; rintro e w7 ⟨v256, rfl, ho0, hb⟩; refine ⟨_, rfl, ?_⟩; have HO257 := Aside0.mk (Kd.R_lower ho0 (below_size oB)); replace HB := Aside0.mk (below_step oB hb); obtain ⟨Ao8, co8, eo8⟩ := Kd.R_slice HO257.out; subst eo8; have p258 : 0 ≤ (0 : Int) := (by omega); have q258 : 0 < (t255.length : Int) := oa; obtain ⟨ad258, e258, hx258_0⟩ := Kd.at_string (Kd.R_reads' HO257.out).2.2 0 p258 q258; cases e258; have qi258 : (0 < t255.length) = True := eq_true (by omega); (try rw [show ((0 : Int)).toNat = 0 from rfl] at hx258_0); (try rw [Addr.add_zero'] at hx258_0); replace p258 := eq_true p258; replace q258 := eq_true q258))
     go_ret2
     exact ⟨_, oE, Kd.Q_of_R (by first | exact Kd.R_nil _ _ _ _ _ | exact Kd.N_nil _ _ _ _ _ | exact Kd.V_nil _ _ _ _ _ | exact Kd.Q_nil _ _ _ _ _ | exact Kd.S_nil _ _ _ _ _), oB⟩
    ·rw [if_neg c6] at H
     have c6b0 : decide ((t255.length : Int) < 2) = false := decide_eq_false c6
     have c6b1 : decide (t255.length < 2) = false := decide_eq_false (by omega)
     clear c6
     by_cases c9 : 1 ≤ (t255.length : Int)
     ·rw [if_pos c9] at H
      have c9b0 := eq_true c9
      have c9b1 : decide (1 ≤ (t255.length : Int)) = true := decide_eq_true c9
      clear c9
      obtain ⟨y259, hy259⟩ : ∃ y_ : List ByteArray, y_ = (t255.drop 1) := ⟨_, rfl⟩
      replace H : ((impl_namesOk.f k y259).bind fun t263 => (if t263 = true then (some ((t255.drop (1 : Int).toNat), true)) else (some (([] : List ByteArray), false)))) = some (r1, r2) := by first | (rw [hy259]; with_reducible exact H) | (have H2_ := (Option.bind_some _ _).symm.trans H; rw [hy259]; with_reducible exact H2_) | (have H2_ := (Option.bind_some _ _).symm.trans H; with_reducible exact H2_) | with_reducible exact H | (rw [hy259]; exact H) | exact H
      have Ny259 := Aside0.mk hy259
      clear hy259
      replace H := bA H
      obtain ⟨t263, A10, H⟩ := H
      try dsimp only at H
      replace H := itB H
      rcases H with ⟨rfl, H⟩ | ⟨rfl, H⟩
      ·have c12b0 := eq_true (oa : 1 ≤ (t255.length : Int))
       obtain ⟨y264, hy264⟩ : ∃ y_ : List ByteArray, y_ = (t255.drop (1 : Int).toNat) := ⟨_, rfl⟩
       replace H : (some (y264, true)) = some (r1, r2) := by first | (rw [hy264]; with_reducible exact H) | (have H2_ := (Option.bind_some _ _).symm.trans H; rw [hy264]; with_reducible exact H2_) | (have H2_ := (Option.bind_some _ _).symm.trans H; with_reducible exact H2_) | with_reducible exact H | (rw [hy264]; exact H) | exact H
       have Ny264 := Aside0.mk hy264
       clear hy264
       simp only [Option.some.injEq, Prod.mk.injEq] at H
       obtain ⟨rfl, rfl⟩ := H
       go_enter Tryz.func16, Tryz.ntmps16
       go_wp2_with (first | ((with_reducible refine gate_callee (f := 36) rfl ?_); refine gl_ 8 Tryz.func36 (strings_Split.calls a0 (⟨#[47]⟩ : ByteArray) t255 _ A3.out) ?_; rintro e w13 ⟨v256, rfl, ho0, hb⟩; refine ⟨_, rfl, ?_⟩; have HO257 := Aside0.mk (Kd.R_lower ho0 (below_size oB)); replace HB := Aside0.mk (below_step oB hb); obtain ⟨Ao14, co14, eo14⟩ := Kd.R_slice HO257.out; subst eo14; have p258 : 0 ≤ (0 : Int) := (by omega); have q258 : 0 < (t255.length : Int) := oa; obtain ⟨ad258, e258, hx258_0⟩ := Kd.at_string (Kd.R_reads' HO257.out).2.2 0 p258 q258; cases e258; have qi258 : (0 < t255.length) = True := eq_true (by omega); (try rw [show ((0 : Int)).toNat = 0 from rfl] at hx258_0); (try rw [Addr.add_zero'] at hx258_0); replace p258 := eq_true p258; replace q258 := eq_true q258; have q15 : (1 : Int) ≤ ((t255.length : Int) : Int) := oa; obtain ⟨i015, hi015, _, hsz15, _⟩ := info_parts info9; have hroom15 : t255.length ≤ co14 := (Kd.R_reads' HO257.out).2.1; have hC15 : Kd.C Kd.string _ (some ad258) t255.length t255 := (Kd.R_reads' HO257.out).2.2; have hcut15 := cut_from (P := Tryz.prog) 31 9 .i64 Tryz.underlying31 hi015 1 hsz15 (some ad258) t255.length co14 1 (by omega) q15; have hr15 := Kd.C_drop (m := (1 : Int).toNat) (c := co14) hC15 (by omega) hroom15; obtain ⟨A15, hA15⟩ : ∃ A1, A1 = (if co14 = (1 : Int).toNat then (some ad258) else ((some ad258) : Option Addr).map (·.add ((1 : Int).toNat * 1))) := ⟨_, rfl⟩; obtain ⟨c15, hc15⟩ : ∃ c1, c1 = co14 - (1 : Int).toNat := ⟨_, rfl⟩; have hy15 : y259.length = t255.length - (1 : Int).toNat := (by rw [Ny259.out, List.length_drop] <;> omega); rw [show (t255).drop (1 : Int).toNat = y259 from Ny259.out.symm] at hr15; replace hr15 : Kd.C Kd.string _ A15 y259.length y259 := (by rw [hA15]; exact hr15); rw [← hy15, ← hA15, ← hc15] at hcut15; have HR262 := Aside0.mk hr15; have HC262 := Aside0.mk (show y259.length ≤ c15 from by rw [hy15, hc15]; exact Nat.sub_le_sub_right hroom15 _); have KC15 := Aside0.mk hc15; clear hr15 hC15 hroom15 hi015 hsz15 hc15; have KY15 := Aside0.mk hy15; have KA15 := Aside0.mk hA15; clear hy15 hA15; have KL15 := Aside0.mk (show 1 ≤ t255.length from by omega); replace q15 := eq_true q15) | (go_at_call 37; (with_reducible refine (impl_namesOk.calls k _ _ y259 true _ ?side1 HC262.out A10.out).mono ?_); (case side1 => repeat (first | exact (by repeat (first | (with_reducible exact HR262.out) | (with_reducible refine Kd.C_alloc ?_ _) | (with_reducible refine Kd.C_drewN ?_ _) | (with_reducible refine Kd.C_drew ?_) | exact HR262.out)) | (with_reducible refine Kd.C_alloc ?_ _) | (with_reducible refine Kd.C_drewN ?_ _) | (with_reducible refine Kd.C_drew ?_))); rintro e w16 ⟨rfl, hb⟩; replace HO257 := kr_ HO257 hb; replace HR262 := Aside0.mk (Kd.C_below (by repeat (first | (with_reducible exact HR262.out) | (with_reducible refine Kd.C_alloc ?_ _) | (with_reducible refine Kd.C_drewN ?_ _) | (with_reducible refine Kd.C_drew ?_) | exact HR262.out)) hb); replace HB := Aside0.mk (below_step oB hb); have q17 : (1 : Int) ≤ ((t255.length : Int) : Int) := oa; obtain ⟨i017, hi017, _, hsz17, _⟩ := info_parts info9; have hcut17 := cut_from (P := Tryz.prog) 31 9 .i64 Tryz.underlying31 hi017 1 hsz17 (some ad258) t255.length co14 1 (by omega) q17; have hr17 := Kd.Q_drop (k := (1 : Int).toNat) (Kd.Q_of_R HO257.out) (by omega); obtain ⟨A17, hA17⟩ : ∃ A1, A1 = (if co14 = (1 : Int).toNat then (some ad258) else ((some ad258) : Option Addr).map (·.add ((1 : Int).toNat * 1))) := ⟨_, rfl⟩; obtain ⟨c17, hc17⟩ : ∃ c1, c1 = co14 - (1 : Int).toNat := ⟨_, rfl⟩; have hy17 : y264.length = t255.length - (1 : Int).toNat := (by rw [Ny264.out, List.length_drop]); rw [← Ny264.out] at hr17; rw [← hy17, ← hA17, ← hc17] at hcut17; replace hr17 : Kd.Q Kd.string 9 w16 w.heap.size (fun _ => True) (.slice A17 y264.length c17) y264 := (by rw [hA17, hc17, hy17]; exact hr17); have HE17 : Aside0 ((Value.slice A17 y264.length c17).ownBlock = (.slice (some ad258) t255.length co14 : Value).ownBlock) := ⟨by rw [hA17]; split <;> (cases ((some ad258) : Option Addr) <;> rfl)⟩; obtain rfl : A15 = A17 := KA15.out.trans hA17.symm; obtain rfl : c15 = c17 := KC15.out.trans hc17.symm; obtain rfl : y259 = y264 := Ny259.out.trans Ny264.out.symm; clear hy17 hi017 hsz17 HO257 hA17 hc17; have HO266 := Aside0.mk hr17; clear hr17; replace q17 := eq_true q17))
       go_ret2
       exact ⟨_, oE, by (with_reducible repeat (first | apply Kd.Q_alloc | apply Kd.Q_drewN | apply Kd.Q_drew)); exact HO266.out, oB⟩
      ·simp only [Option.some.injEq, Prod.mk.injEq] at H
       obtain ⟨rfl, rfl⟩ := H
       go_enter Tryz.func16, Tryz.ntmps16
       go_wp2_with (first | ((with_reducible refine gate_callee (f := 36) rfl ?_); refine gl_ 8 Tryz.func36 (strings_Split.calls a0 (⟨#[47]⟩ : ByteArray) t255 _ A3.out) ?_; rintro e w18 ⟨v256, rfl, ho0, hb⟩; refine ⟨_, rfl, ?_⟩; have HO257 := Aside0.mk (Kd.R_lower ho0 (below_size oB)); replace HB := Aside0.mk (below_step oB hb); obtain ⟨Ao19, co19, eo19⟩ := Kd.R_slice HO257.out; subst eo19; have p258 : 0 ≤ (0 : Int) := (by omega); have q258 : 0 < (t255.length : Int) := oa; obtain ⟨ad258, e258, hx258_0⟩ := Kd.at_string (Kd.R_reads' HO257.out).2.2 0 p258 q258; cases e258; have qi258 : (0 < t255.length) = True := eq_true (by omega); (try rw [show ((0 : Int)).toNat = 0 from rfl] at hx258_0); (try rw [Addr.add_zero'] at hx258_0); replace p258 := eq_true p258; replace q258 := eq_true q258; have q20 : (1 : Int) ≤ ((t255.length : Int) : Int) := oa; obtain ⟨i020, hi020, _, hsz20, _⟩ := info_parts info9; have hroom20 : t255.length ≤ co19 := (Kd.R_reads' HO257.out).2.1; have hC20 : Kd.C Kd.string _ (some ad258) t255.length t255 := (Kd.R_reads' HO257.out).2.2; have hcut20 := cut_from (P := Tryz.prog) 31 9 .i64 Tryz.underlying31 hi020 1 hsz20 (some ad258) t255.length co19 1 (by omega) q20; have hr20 := Kd.C_drop (m := (1 : Int).toNat) (c := co19) hC20 (by omega) hroom20; obtain ⟨A20, hA20⟩ : ∃ A1, A1 = (if co19 = (1 : Int).toNat then (some ad258) else ((some ad258) : Option Addr).map (·.add ((1 : Int).toNat * 1))) := ⟨_, rfl⟩; obtain ⟨c20, hc20⟩ : ∃ c1, c1 = co19 - (1 : Int).toNat := ⟨_, rfl⟩; have hy20 : y259.length = t255.length - (1 : Int).toNat := (by rw [Ny259.out, List.length_drop] <;> omega); rw [show (t255).drop (1 : Int).toNat = y259 from Ny259.out.symm] at hr20; replace hr20 : Kd.C Kd.string _ A20 y259.length y259 := (by rw [hA20]; exact hr20); rw [← hy20, ← hA20, ← hc20] at hcut20; have HR262 := Aside0.mk hr20; have HC262 := Aside0.mk (show y259.length ≤ c20 from by rw [hy20, hc20]; exact Nat.sub_le_sub_right hroom20 _); clear hr20 hC20 hroom20 hi020 hsz20 hc20; have KY20 := Aside0.mk hy20; have KA20 := Aside0.mk hA20; clear hy20 hA20; have KL20 := Aside0.mk (show 1 ≤ t255.length from by omega); replace q20 := eq_true q20) | (go_at_call 37; (with_reducible refine (impl_namesOk.calls k _ _ y259 false _ ?side1 HC262.out A10.out).mono ?_); (case side1 => repeat (first | exact (by repeat (first | (with_reducible exact HR262.out) | (with_reducible refine Kd.C_alloc ?_ _) | (with_reducible refine Kd.C_drewN ?_ _) | (with_reducible refine Kd.C_drew ?_) | exact HR262.out)) | (with_reducible refine Kd.C_alloc ?_ _) | (with_reducible refine Kd.C_drewN ?_ _) | (with_reducible refine Kd.C_drew ?_))); rintro e w21 ⟨rfl, hb⟩; replace HO257 := kr_ HO257 hb; replace HR262 := Aside0.mk (Kd.C_below (by repeat (first | (with_reducible exact HR262.out) | (with_reducible refine Kd.C_alloc ?_ _) | (with_reducible refine Kd.C_drewN ?_ _) | (with_reducible refine Kd.C_drew ?_) | exact HR262.out)) hb); replace HB := Aside0.mk (below_step oB hb)))
       go_ret2
       exact ⟨_, oE, Kd.Q_of_R (by first | exact Kd.R_nil _ _ _ _ _ | exact Kd.N_nil _ _ _ _ _ | exact Kd.V_nil _ _ _ _ _ | exact Kd.Q_nil _ _ _ _ _ | exact Kd.S_nil _ _ _ _ _), oB⟩
     ·rw [if_neg c9] at H
      exact absurd H (by simp)
   ·rw [if_neg c5] at H
    have c5b0 : ((rdOf ByteArray.empty t255 0).toList == ([] : List UInt8)) = false := beq_eq_false_iff_ne.mpr c5
    have c5b1 : ((rdOf ByteArray.empty t255 0).toList != ([] : List UInt8)) = true := bne_iff_ne.mpr c5
    simp only [Option.some.injEq, Prod.mk.injEq] at H
    obtain ⟨rfl, rfl⟩ := H
    go_enter Tryz.func16, Tryz.ntmps16
    go_wp2_with (first | ((with_reducible refine gate_callee (f := 36) rfl ?_); refine gl_ 8 Tryz.func36 (strings_Split.calls a0 (⟨#[47]⟩ : ByteArray) t255 _ A3.out) ?_; rintro e w22 ⟨v256, rfl, ho0, hb⟩; refine ⟨_, rfl, ?_⟩; have HO257 := Aside0.mk (Kd.R_lower ho0 (below_size oB)); replace HB := Aside0.mk (below_step oB hb); obtain ⟨Ao23, co23, eo23⟩ := Kd.R_slice HO257.out; subst eo23; have p258 : 0 ≤ (0 : Int) := (by omega); have q258 : 0 < (t255.length : Int) := oa; obtain ⟨ad258, e258, hx258_0⟩ := Kd.at_string (Kd.R_reads' HO257.out).2.2 0 p258 q258; cases e258; have qi258 : (0 < t255.length) = True := eq_true (by omega); (try rw [show ((0 : Int)).toNat = 0 from rfl] at hx258_0); (try rw [Addr.add_zero'] at hx258_0); replace p258 := eq_true p258; replace q258 := eq_true q258))
    go_ret2
    exact ⟨_, oE, Kd.Q_of_R (by first | exact Kd.R_nil _ _ _ _ _ | exact Kd.N_nil _ _ _ _ _ | exact Kd.V_nil _ _ _ _ _ | exact Kd.Q_nil _ _ _ _ _ | exact Kd.S_nil _ _ _ _ _), oB⟩
  ·rw [if_neg c4] at H
   exact absurd H (by simp)

/-! ### impl_JoinPath: function 110 -/
theorem le_of_ {a b c : Nat} (h : Aside0 (a = b)) (k : Aside0 (b ≤ c)) : a ≤ c := Nat.le_trans (Nat.le_of_eq h.out) k.out
theorem rSpot {α : Type} {d : Kd α} {e base n c : Nat} {ok : Nat → Prop} {w : World} {A : Option Addr} {xs ys : List α} (h : d.R e w base ok (.slice A n c) xs) (_hs : ys.length ≤ xs.length) : ∀ ad, A = some ad → 0 < ys.length → ad.spot = none := by
 intro ad hA _
 subst hA
 obtain ⟨g, rfl⟩ := Kd.R_head h
 rfl
theorem qSpot {α : Type} {d : Kd α} {e base n c : Nat} {ok : Nat → Prop} {w : World} {A : Option Addr} {xs ys : List α} (h : d.Q e w base ok (.slice A n c) xs) (hs : ys.length ≤ xs.length) : ∀ ad, A = some ad → 0 < ys.length → ad.spot = none := by
 intro ad hA hp
 subst hA
 have hl := (Kd.Q_reads' h).1
 obtain ⟨_, inner, ⟨_, ho⟩, _⟩ := h
 rcases ho with ⟨h1, _⟩ | ⟨g, o, cap, cur, h1, _⟩
 ·omega
 ·injection h1 with h1
  injection h1 with h1
  rw [h1]
def joinB (l : List ByteArray) : ByteArray := ⟨(Lib.join (l.map (·.data.toList)) [47]).toArray⟩
theorem joinC (A : Option Addr) (c : Nat) (l : List ByteArray) (w : World) (hr : Kd.C Kd.string w A l.length l) (hA : ∀ ad, A = some ad → 0 < l.length → ad.spot = none) (hc : l.length ≤ c) (hN : l.length ≤ 140737488355328) (hlen : (joinB l).size ≤ 140737488355328) :
  Calls Tryz.prog 134 #[.slice A l.length c, .string ⟨#[47]⟩] w fun e w' => e = .returned (.string (joinB l)) ∧ Below w.heap.size w w' := by
 by_cases h0 : l.length = 0
 ·obtain rfl := List.eq_nil_of_length_eq_zero h0
  exact (Any.strings_Join_none Tryz.lays156 Tryz.Builder_Extra_156 A c ⟨#[47]⟩ w).mono fun e w' ⟨he, hw⟩ => ⟨he, hw ▸ Below.refl _ _⟩
 ·obtain ⟨ad, c1, e0, _, hK, hcell⟩ := Kd.C_get hr ⟨#[]⟩ 0 (by omega) (by omega)
  subst e0
  have hsp := hA ad rfl (by omega)
  obtain ⟨bk, o, sp⟩ := ad
  have hsp : sp = none := hsp
  subst hsp
  have hcells : ∀ (j : Nat) x, l[j]? = some x → w.cell? ⟨bk, o + j, none⟩ = some (.string x) := fun j x hx => by
   obtain ⟨hj, hx⟩ := List.getElem?_eq_some_iff.1 hx
   obtain ⟨ad', c', e', _, hK', hcell'⟩ := Kd.C_get hr ⟨#[]⟩ (j : Int) (by omega) (by omega)
   injection e' with e'
   subst e'
   have hg : l.getD (j : Int).toNat ⟨#[]⟩ = x := by rw [Int.toNat_natCast, List.getD_eq_getElem?_getD, List.getElem?_eq_getElem hj]; exact hx
   rw [hg] at hK'
   obtain rfl : c' = [.string x] := hK'
   have := hcell' 0 _ rfl
   simpa [Kd.string, Kd.scalar, Addr.add_lit] using this
  have hbk : bk < w.heap.size := World.block_lt_of_cell? w _ (hcells 0 l[0] (List.getElem?_eq_getElem (by omega)))
  exact Any.strings_Join Tryz.lays156 Tryz.Builder_Extra_156 bk o c l ⟨#[47]⟩ w hcells hbk hN hc (by simpa [joinB, ByteArray.size] using hlen)
def impl_JoinPath.f (k : Nat) (l : List ByteArray) : Option ByteArray := (impl_namesOk.f k l).bind fun b => if b = true then (if l.length ≤ 140737488355328 ∧ (joinB l).size ≤ 140737488355327 then some ((⟨#[47]⟩ : ByteArray) ++ joinB l) else none) else some ⟨#[]⟩
theorem impl_JoinPath.calls (k : Nat) (A0 : Option Addr) (c0 : Nat) (l0 : List ByteArray) (r : ByteArray) (w : World) (hr : Kd.C Kd.string w A0 l0.length l0) (hc0 : l0.length ≤ c0) (h : impl_JoinPath.f k l0 = some r) (hA : ∀ ad, A0 = some ad → 0 < l0.length → ad.spot = none := by first | exact qSpot (by first | (with_reducible assumption) | exact Aside0.out (by with_reducible assumption)) (by first | exact Nat.le_refl _ | exact List.length_take_le _ _ | exact le_of_ (by with_reducible assumption) (by with_reducible assumption)) | exact rSpot (by first | (with_reducible assumption) | exact Aside0.out (by with_reducible assumption)) (by first | exact Nat.le_refl _ | exact List.length_take_le _ _ | exact le_of_ (by with_reducible assumption) (by with_reducible assumption))) :
  Calls Tryz.prog 110 #[.slice A0 l0.length c0] w fun e w' => e = .returned (.string r) ∧ Below w.heap.size w w' := by
 unfold impl_JoinPath.f at h
 replace h := bA h
 obtain ⟨b, A1, h⟩ := h
 have hn := impl_namesOk.calls k A0 c0 l0 b w hr hc0 A1.out
 cases b with
 | true =>
  rw [if_pos rfl] at h
  split at h
  case isFalse => cases h
  case isTrue hl =>
  obtain rfl := Option.some.inj h
  have hs : 1 + (joinB l0).size ≤ 9223372036854775807 := by omega
  have hj := fun w1 (hb : Below w.heap.size w w1) => joinC A0 c0 l0 w1 (Kd.C_below hr hb) hA hc0 hl.1 (by omega)
  clear h hr hA hl A1 hc0
  go_enter Tryz.func110, Tryz.ntmps110
  go_wp2_with (first
   | (go_at_call 37; refine hn.mono ?_; rintro e w1 ⟨rfl, hb⟩)
   | (go_at_call 134; refine (hj _ hb).mono ?_; rintro e w2 ⟨rfl, hb2⟩))
  go_ret
  exact ⟨rfl, below_then hb hb.size hb2⟩
 | false =>
  rw [if_neg (by simp)] at h
  obtain rfl := Option.some.inj h
  clear h hr hA A1 hc0
  go_enter Tryz.func110, Tryz.ntmps110
  go_wp2_with (go_at_call 37; refine hn.mono ?_; rintro e w1 ⟨rfl, hb⟩)
  go_ret
  exact ⟨rfl, hb⟩
/-! ### impl_InodeAt: function 42 -/
def impl_InodeAt.f (k : Nat) (l0_0 : List (S51)) (a0_1 : Int) (a1 : Int) : Option (Int × Int × Int × List Int × (List (S65)) × (List (S71)) × Bool) := (impl_placeOf.f k l0_0 a0_1 a1).bind fun t132 => (if t132 < 0 then (some (0, 0, 0, ([] : List Int), ([] : List (S65)), ([] : List (S71)), false)) else (if 0 ≤ t132 then (if t132 < (l0_0.length : Int) then ((impl_copyInode.f ((rd_T51 l0_0 t132).f0) ((rd_T51 l0_0 t132).f1) ((rd_T51 l0_0 t132).f2) ((rd_T51 l0_0 t132).f3) ((rd_T51 l0_0 t132).f4) ((rd_T51 l0_0 t132).f5)).bind fun bt134 => (some (bt134.1, bt134.2.1, bt134.2.2.1, bt134.2.2.2.1, bt134.2.2.2.2.1, bt134.2.2.2.2.2, true))) else (none)) else (none)))
set_option maxHeartbeats 8000000 in
set_option maxRecDepth 100000 in
theorem impl_InodeAt.calls (k : Nat) (A0_0 : Option Addr) (c0_0 : Nat) (l0_0 : List (S51)) (a0_1 : Int) (a1 : Int) (r1 : Int) (r2 : Int) (r3 : Int) (r4 : List Int) (r5 : List (S65)) (r6 : List (S71)) (r7 : Bool) (w : World) (hr0_0 : Kd.C k51 w A0_0 l0_0.length l0_0) (hc0_0 : l0_0.length ≤ c0_0) (h : impl_InodeAt.f k l0_0 a0_1 a1 = some (r1, r2, r3, r4, r5, r6, r7)) :
  Calls Tryz.prog 42 #[.agg #[.slice A0_0 l0_0.length c0_0, .int .i64 a0_1], .int .i64 a1] w fun e w' => ∃ v3_ v4_ v5_ : Value, e = .returned (.tuple #[.agg #[.int .i64 r1, .int .i64 r2, .int .i64 r3, v3_, v4_, v5_], .bool r7]) ∧ Kd.R (Kd.int .u8) 5 w' w.heap.size (fun _ => True) v3_ r4 ∧ Kd.R k65 65 w' w.heap.size (fun _ => True) v4_ r5 ∧ Kd.R k71 71 w' w.heap.size (fun _ => True) v5_ r6 ∧ Below w.heap.size w w' := by
 have hu26 := Tryz.underlying26
 have hu51 := Tryz.underlying51
 have HR0_0 := Aside0.mk hr0_0
 have HC0_0 := Aside0.mk hc0_0
 clear hr0_0 hc0_0
 have HB := Aside0.mk (Below.refl w.heap.size w)
 unfold impl_InodeAt.f at h
 have H := h
 clear h
 replace H := bA H
 obtain ⟨t132, A3, H⟩ := H
 try dsimp only at H
 replace H := itD H
 rcases H with ⟨c4b0, H⟩ | ⟨c4b0, H⟩
 ·simp only [Option.some.injEq, Prod.mk.injEq] at H
  obtain ⟨rfl, rfl, rfl, rfl, rfl, rfl, rfl⟩ := H
  go_enter Tryz.func42, Tryz.ntmps42
  go_wp2_with (first | ((with_reducible refine gate_dst (N := 2) rfl ?_); refine bx_ 2 #[.slice A0_0 l0_0.length c0_0, .int .i64 a0_1] 26 ?_; intro gb130 hg w5 hbox hb; have BK130 := Aside0.mk (hbox); have GW130 := gs_ hg; replace HB := Aside0.mk (below_step oB hb); clear hb hbox hg) | ((with_reducible refine gate_dst (N := 4) rfl ?_); refine bx_ 4 #[.int .i64 0, .int .i64 0, .int .i64 0, .slice none 0 0, .slice none 0 0, .slice none 0 0] 51 ?_; intro gb131 hg w6 hbox hb; have BK131 := Aside0.mk (hbox); have GW131 := gs_ hg; have NB130_131 := nl_ hg BK130; have NB131_130 := nr_ hg BK130; replace BK130 := kb_ BK130 hb; replace HB := Aside0.mk (below_step oB hb); clear hb hbox hg; have hnb7 := NB130_131.out; have hnc7 := NB131_130.out; obtain ⟨⟨_, _⟩, _, _⟩ := z2 BK130) | ((with_reducible refine gate_callee (f := 41) rfl ?_); refine gl_ 9 Tryz.func41 (impl_placeOf.calls k _ _ l0_0 a0_1 a1 t132 _ (kC HR0_0) HC0_0.out A3.out) ?_; rintro e w9 ⟨rfl, hb⟩; refine ⟨_, rfl, ?_⟩; replace BK130 := kb_ BK130 hb; replace BK131 := kb_ BK131 hb; replace HB := Aside0.mk (below_step oB hb); obtain ⟨⟨_, _, _, _, _, _⟩, _, _, _, _, _, _⟩ := z6 BK131))
  refine bodyPost_ret (results_ct rfl _ _ gb131 51 #[.int .i64 0, .int .i64 0, .int .i64 0, .slice none 0 0, .slice none 0 0, .slice none 0 0] (0, 0) _ rfl (oP BK131) Tryz.underlying51 rfl (by kernel_rfl)) rfl ?_
  exact ⟨_, _, _, oE, by first | exact Kd.R_nil _ _ _ _ _ | exact Kd.N_nil _ _ _ _ _ | exact Kd.V_nil _ _ _ _ _ | exact Kd.Q_nil _ _ _ _ _ | exact Kd.S_nil _ _ _ _ _, by first | exact Kd.R_nil _ _ _ _ _ | exact Kd.N_nil _ _ _ _ _ | exact Kd.V_nil _ _ _ _ _ | exact Kd.Q_nil _ _ _ _ _ | exact Kd.S_nil _ _ _ _ _, by first | exact Kd.R_nil _ _ _ _ _ | exact Kd.N_nil _ _ _ _ _ | exact Kd.V_nil _ _ _ _ _ | exact Kd.Q_nil _ _ _ _ _ | exact Kd.S_nil _ _ _ _ _, oB⟩
 ·replace H := itD H
  rcases H with ⟨c11b0, H⟩ | ⟨c11b0, H⟩
  ·replace H := itD H
   rcases H with ⟨c12b0, H⟩ | ⟨c12b0, H⟩
   ·replace H := bA H
    obtain ⟨⟨t134, t135, t136, t137, t140, t143⟩, A13, H⟩ := H
    try dsimp only at H
    simp only [Option.some.injEq, Prod.mk.injEq] at H
    obtain ⟨rfl, rfl, rfl, rfl, rfl, rfl, rfl⟩ := H
    go_enter Tryz.func42, Tryz.ntmps42
    go_wp2_with (first | ((with_reducible refine gate_dst (N := 2) rfl ?_); refine bx_ 2 #[.slice A0_0 l0_0.length c0_0, .int .i64 a0_1] 26 ?_; intro gb130 hg w14 hbox hb; have BK130 := Aside0.mk (hbox); have GW130 := gs_ hg; replace HB := Aside0.mk (below_step oB hb); clear hb hbox hg) | ((with_reducible refine gate_dst (N := 4) rfl ?_); refine bx_ 4 #[.int .i64 0, .int .i64 0, .int .i64 0, .slice none 0 0, .slice none 0 0, .slice none 0 0] 51 ?_; intro gb131 hg w15 hbox hb; have BK131 := Aside0.mk (hbox); have GW131 := gs_ hg; have NB130_131 := nl_ hg BK130; have NB131_130 := nr_ hg BK130; replace BK130 := kb_ BK130 hb; replace HB := Aside0.mk (below_step oB hb); clear hb hbox hg; have hnb16 := NB130_131.out; have hnc16 := NB131_130.out; obtain ⟨⟨_, _⟩, _, _⟩ := z2 BK130) | ((with_reducible refine gate_callee (f := 41) rfl ?_); refine gl_ 9 Tryz.func41 (impl_placeOf.calls k _ _ l0_0 a0_1 a1 t132 _ (kC HR0_0) HC0_0.out A3.out) ?_; rintro e w18 ⟨rfl, hb⟩; refine ⟨_, rfl, ?_⟩; replace BK130 := kb_ BK130 hb; replace BK131 := kb_ BK131 hb; replace HB := Aside0.mk (below_step oB hb); obtain ⟨⟨_, _⟩, _, _⟩ := z2 BK130; have p133 : (0 ≤ (t132 : Int)) = True := oT; have q133 : (t132 < (l0_0.length : Int)) = True := oT; obtain ⟨ad133, A133_3, c133_3, A133_4, c133_4, A133_5, c133_5, e133, hx133_0, hx133_1, hx133_2, hx133_3, hx133_4, hx133_5, hl133_3, hi133_3, hl133_4, hi133_4, hl133_5, hi133_5⟩ := at_T51 HR0_0.out t132 oa oa; cases e133; replace hx133_0 := cB HB hx133_0; replace hx133_1 := cB HB hx133_1; replace hx133_2 := cB HB hx133_2; replace hx133_3 := cB HB hx133_3; replace hx133_4 := cB HB hx133_4; replace hx133_5 := cB HB hx133_5; have HR133_3 := Aside0.mk hi133_3; have HC133_3 := Aside0.mk hl133_3; clear hi133_3 hl133_3; have HR133_4 := Aside0.mk hi133_4; have HC133_4 := Aside0.mk hl133_4; clear hi133_4 hl133_4; have HR133_5 := Aside0.mk hi133_5; have HC133_5 := Aside0.mk hl133_5; clear hi133_5 hl133_5) | ((with_reducible refine gate_callee (f := 71) rfl ?_); refine gl_ 18 Tryz.func71 (impl_copyInode.calls ((rd_T51 l0_0 t132).f0) ((rd_T51 l0_0 t132).f1) ((rd_T51 l0_0 t132).f2) _ _ ((rd_T51 l0_0 t132).f3) _ _ ((rd_T51 l0_0 t132).f4) _ _ ((rd_T51 l0_0 t132).f5) t134 t135 t136 t137 t140 t143 _ (kC HR133_3) HC133_3.out (kC HR133_4) HC133_4.out (kC HR133_5) HC133_5.out A13.out) ?_; rintro e w20 ⟨v138, v141, v144, rfl, ho0, ho1, ho2, hb⟩; refine ⟨_, rfl, ?_⟩; have HO139 := Aside0.mk (Kd.R_lower ho0 (below_size oB)); have HO142 := Aside0.mk (Kd.R_lower ho1 (below_size oB)); have HO145 := Aside0.mk (Kd.R_lower ho2 (below_size oB)); replace BK130 := kb_ BK130 hb; replace BK131 := kb_ BK131 hb; replace HB := Aside0.mk (below_step oB hb); (try clear ho1); (try clear ho2); obtain ⟨⟨_, _, _, _, _, _⟩, _, _, _, _, _, _⟩ := z6 BK131; obtain ⟨Ao22, co22, eo22⟩ := Kd.R_slice HO139.out; subst eo22; obtain ⟨Ao23, co23, eo23⟩ := Kd.R_slice HO142.out; subst eo23; obtain ⟨Ao24, co24, eo24⟩ := Kd.R_slice HO145.out; subst eo24))
    refine bodyPost_ret (results_ct rfl _ _ gb131 51 #[.int .i64 t134, .int .i64 t135, .int .i64 t136, .slice Ao22 t137.length co22, .slice Ao23 t140.length co23, .slice Ao24 t143.length co24] (0, 0) _ rfl (oP BK131) Tryz.underlying51 rfl (by kernel_rfl)) rfl ?_
    exact ⟨_, _, _, oE, by (with_reducible repeat (first | apply Kd.R_alloc | apply Kd.R_drewN | apply Kd.R_drew)); exact Kd.R_mono (Kd.R_far (p := ⟨gb131, 5, none⟩) (Kd.R_far (p := ⟨gb131, 4, none⟩) (Kd.R_far (p := ⟨gb131, 3, none⟩) (Kd.R_far (p := ⟨gb131, 2, none⟩) (Kd.R_far (p := ⟨gb131, 1, none⟩) (Kd.R_far (p := ⟨gb131, 0, none⟩) (Kd.R_types HO139.out BK131.out (by decide)) (fun _ hk => hk.2) (.int .i64 t134)) (fun _ hk => hk.2) (.int .i64 t135)) (fun _ hk => hk.2) (.int .i64 t136)) (fun _ hk => hk.2) (.slice Ao22 t137.length co22)) (fun _ hk => hk.2) (.slice Ao23 t140.length co23)) (fun _ hk => hk.2) (.slice Ao24 t143.length co24)) (fun _ hk => trivial), by (with_reducible repeat (first | apply Kd.R_alloc | apply Kd.R_drewN | apply Kd.R_drew)); exact Kd.R_mono (Kd.R_far (p := ⟨gb131, 5, none⟩) (Kd.R_far (p := ⟨gb131, 4, none⟩) (Kd.R_far (p := ⟨gb131, 3, none⟩) (Kd.R_far (p := ⟨gb131, 2, none⟩) (Kd.R_far (p := ⟨gb131, 1, none⟩) (Kd.R_far (p := ⟨gb131, 0, none⟩) (Kd.R_types HO142.out BK131.out (by decide)) (fun _ hk => hk.2) (.int .i64 t134)) (fun _ hk => hk.2) (.int .i64 t135)) (fun _ hk => hk.2) (.int .i64 t136)) (fun _ hk => hk.2) (.slice Ao22 t137.length co22)) (fun _ hk => hk.2) (.slice Ao23 t140.length co23)) (fun _ hk => hk.2) (.slice Ao24 t143.length co24)) (fun _ hk => trivial), by (with_reducible repeat (first | apply Kd.R_alloc | apply Kd.R_drewN | apply Kd.R_drew)); exact Kd.R_mono (Kd.R_far (p := ⟨gb131, 5, none⟩) (Kd.R_far (p := ⟨gb131, 4, none⟩) (Kd.R_far (p := ⟨gb131, 3, none⟩) (Kd.R_far (p := ⟨gb131, 2, none⟩) (Kd.R_far (p := ⟨gb131, 1, none⟩) (Kd.R_far (p := ⟨gb131, 0, none⟩) (Kd.R_types HO145.out BK131.out (by decide)) (fun _ hk => hk.2) (.int .i64 t134)) (fun _ hk => hk.2) (.int .i64 t135)) (fun _ hk => hk.2) (.int .i64 t136)) (fun _ hk => hk.2) (.slice Ao22 t137.length co22)) (fun _ hk => hk.2) (.slice Ao23 t140.length co23)) (fun _ hk => hk.2) (.slice Ao24 t143.length co24)) (fun _ hk => trivial), oB⟩
   ·cases H
  ·cases H

end Go.Proofs.YtkcfmbggdkkfeaaGreatDoor.P
