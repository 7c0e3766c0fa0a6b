-- By this session's own program (wip/myprint.py) out of the translation; Lean checks it.
import Derived.Test.YtkcfmbggdkkfeaaGreatDoorPx0
import Derived.Test.YtkcfmbggdkkfeaaGreatDoorPx2
import Derived.Test.YtkcfmbggdkkfeaaGreatDoorPx8
import Derived.Test.YtkcfmbggdkkfeaaGreatDoorPx9
import Derived.Test.YtkcfmbggdkkfeaaGreatDoorPx15
namespace Go.Proofs.YtkcfmbggdkkfeaaGreatDoor.P
open Go.RowKit Go.Proofs.YtkcfmbggdkkfeaaGreatDoorW.PrintWords Go.Proofs.YtkcfmbggdkkfeaaGreatDoorW.PrintLast Go.Proofs.YtkcfmbggdkkfeaaGreatDoorW.PrintMore
attribute [local go_sem] max2_int min2_int max_two min_two max_three min_three max_four min_four   -- for this text's walks alone
set_option linter.unusedVariables false
set_option linter.unusedSimpArgs false

/-! ### impl_List: function 33 -/
def impl_List.l0 : Nat → List ByteArray → List (S65) → Int → Int → Option (List ByteArray × Int)
 | 0, _, _, _, _ => none
 | k + 1, x8, x25, x26, x27 => if x27 < x26 then (if 0 ≤ x27 then (if x27 < (x25.length : Int) then (if x8.length < 8796093022208 then (impl_List.l0 k (x8 ++ [(rd_T65 x25 x27).f0]) x25 x26 (wrap64 (x27 + 1))) else (none)) else (none)) else (none)) else (some (x8, 0))
def impl_List.f (k : Nat) (l0_0 : List (S51)) (a0_1 : Int) (a1 : ByteArray) : Option (List ByteArray × Int) := (impl_Stat.f k l0_0 a0_1 a1).bind fun bt593 => (if bt593.2.2.2.2.2.2 = 0 then (if bt593.2.1 = 2 then (impl_List.l0 k (([] : List ByteArray)) bt593.2.2.2.2.1 (bt593.2.2.2.2.1.length : Int) 0) else (some (([] : List ByteArray), 3))) else (some (([] : List ByteArray), bt593.2.2.2.2.2.2)))
set_option maxHeartbeats 8000000 in
set_option maxRecDepth 100000 in
theorem impl_List.calls (k : Nat) (A0_0 : Option Addr) (c0_0 : Nat) (l0_0 : List (S51)) (a0_1 : Int) (a1 : ByteArray) (r1 : List ByteArray) (r2 : Int) (w : World) (hr0_0 : Kd.C k51 w A0_0 l0_0.length l0_0) (hc0_0 : l0_0.length ≤ c0_0) (h : impl_List.f k l0_0 a0_1 a1 = some (r1, r2)) (hG : GOk w := by exact gk_ oB (by first | (with_reducible assumption) | assumption)) :
  Calls Tryz.prog 33 #[.agg #[.slice A0_0 l0_0.length c0_0, .int .i64 a0_1], .string a1] w fun e w' => ∃ v0_ : Value, e = .returned (.tuple #[v0_, .int .i64 r2]) ∧ Kd.R Kd.string 9 w' w.heap.size (fun _ => True) v0_ r1 ∧ Below w.heap.size w w' := by
 have HG := Aside0.mk hG
 clear hG
 have hu26 := Tryz.underlying26
 have hu51 := Tryz.underlying51
 have hu65 := Tryz.underlying65
 have HR0_0 := Aside0.mk hr0_0
 have HC0_0 := Aside0.mk hc0_0
 clear hr0_0 hc0_0
 have HB := Aside0.mk (Below.refl w.heap.size w)
 unfold impl_List.f at h
 have H := h
 clear h
 replace H := bA H
 obtain ⟨⟨t593, t594, t595, t596, t599, t602, t605⟩, A3, H⟩ := H
 try dsimp only at H
 by_cases c4 : t605 = 0
 ·rw [if_pos c4] at H
  have c4b0 : (t605 == 0) = true := beq_iff_eq.mpr c4
  have c4b1 : (t605 != 0) = false := bne_eq_false_iff_eq.mpr c4
  clear c4
  by_cases c5 : t594 = 2
  ·rw [if_pos c5] at H
   have c5b0 : (t594 == 2) = true := beq_iff_eq.mpr c5
   have c5b1 : (t594 != 2) = false := bne_eq_false_iff_eq.mpr c5
   clear c5
   obtain ⟨y607, hy607⟩ : ∃ y_ : List ByteArray, y_ = (([] : List ByteArray)) := ⟨_, rfl⟩
   replace H : (impl_List.l0 k y607 t599 (t599.length : Int) 0) = some (r1, r2) := by first | (rw [hy607]; with_reducible exact H) | (have H2_ := (Option.bind_some _ _).symm.trans H; rw [hy607]; with_reducible exact H2_) | (have H2_ := (Option.bind_some _ _).symm.trans H; with_reducible exact H2_) | with_reducible exact H | (rw [hy607]; exact H) | exact H
   have Ny607 := Aside0.mk hy607
   clear hy607
   have H' := Aside0.mk H
   clear H
   go_enter Tryz.func33, Tryz.ntmps33
   go_wp2_with (first | ((with_reducible refine gate_dst (N := 2) rfl ?_); refine bx_ 2 #[.slice A0_0 l0_0.length c0_0, .int .i64 a0_1] 26 ?_; intro gb592 hg w6 hbox hb; have BK592 := Aside0.mk (hbox); have GW592 := gs_ hg; replace HB := Aside0.mk (below_step oB hb); clear hb hbox hg; obtain ⟨⟨_, _⟩, _, _⟩ := z2 BK592) | ((with_reducible refine gate_callee (f := 28) rfl ?_); refine gl_ 14 Tryz.func28 (impl_Stat.calls k _ _ l0_0 a0_1 a1 t593 t594 t595 t596 t599 t602 t605 _ (kC HR0_0) HC0_0.out A3.out) ?_; rintro e w8 ⟨v597, v600, v603, rfl, ho0, ho1, ho2, hb⟩; refine ⟨_, rfl, ?_⟩; have HO598 := Aside0.mk (Kd.R_lower ho0 (below_size oB)); have HO601 := Aside0.mk (Kd.R_lower ho1 (below_size oB)); have HO604 := Aside0.mk (Kd.R_lower ho2 (below_size oB)); replace BK592 := kb_ BK592 hb; replace HB := Aside0.mk (below_step oB hb); (try clear ho1); (try clear ho2)) | ((with_reducible refine gate_dst (N := 6) rfl ?_); refine bx_ 6 #[.int .i64 0, .int .i64 0, .int .i64 0, .slice none 0 0, .slice none 0 0, .slice none 0 0] 51 ?_; intro gb606 hg w9 hbox hb; have BK606 := Aside0.mk (hbox); have GW606 := gs_ hg; have NB592_606 := nl_ hg BK592; have NB606_592 := nr_ hg BK592; replace HO598 := kr_ HO598 hb; replace HO601 := kr_ HO601 hb; replace HO604 := kr_ HO604 hb; replace BK592 := kb_ BK592 hb; replace HB := Aside0.mk (below_step oB hb); clear hb hbox hg; have hnb10 := NB606_592.out; have hnc10 := NB592_606.out; obtain ⟨⟨_, _, _, _, _, _⟩, _, _, _, _, _, _⟩ := z6 BK606; obtain ⟨Ao12, co12, eo12⟩ := Kd.R_slice HO598.out; subst eo12; obtain ⟨Ao13, co13, eo13⟩ := Kd.R_slice HO601.out; subst eo13; obtain ⟨Ao14, co14, eo14⟩ := Kd.R_slice HO604.out; subst eo14) | ((with_reducible refine gate_dst (N := 23) rfl ?_); refine Kd.R_lit Kd.string _ 9 ?hg (N := 23) ?hd (xs := ([] : List ByteArray)) (inner := []) (ok := fun _ => True) (okp := fun _ => True) ?hr ?hp (fun _ hk => hk) trivial (Below.refl _ _) (Nat.le_refl _) (by simp) ?_; (case hd => rfl); (case hg => rfl); (case hr => first | (go_simp; done) | (go_simp; rfl)); (case hp => exact (Reps.none _ _)); intro v608 w15 ho16 hb hg_ hnew_; clear hg_ hnew_; (first | rw [← Ny607.out] at ho16 | (simp only [Int.reduceToNat] at ho16; rw [← Ny607.out] at ho16)); have HO609 := Aside0.mk (Kd.R_lower ho16 (below_size oB)); replace HO598 := beR1 HO598 BK606 hb; replace HO601 := beR1 HO601 BK606 hb; replace HO604 := beR1 HO604 BK606 hb; replace BK592 := kb_ BK592 hb; replace BK606 := kp_ #[.int .i64 t593, .int .i64 t594, .int .i64 t595, .slice Ao12 t596.length co12, .slice Ao13 t599.length co13, .slice Ao14 t602.length co14] BK606 hb; replace HB := Aside0.mk (below_step oB hb); clear hb ho16; obtain ⟨⟨_, _, _, _, _, _⟩, _, _, _, _, _, _⟩ := z6 BK606))
   go_loopg [8, 27] k (fun kq v8 v27 w' => ∃ (x8_1 : List ByteArray) (x27_1 : Int), v27 = .int .i64 x27_1 ∧ Aside0 (impl_List.l0 kq x8_1 t599 (t599.length : Int) x27_1 = some (r1, r2)) ∧ Aside0 (kq ≤ k) ∧ Aside0 (Kd.R Kd.string 9 w' w.heap.size (fun _ => True) v8 x8_1) ∧ Aside0 (Kd.R k65 65 w' w.heap.size (fun _ => True) (.slice Ao13 t599.length co13) t599) ∧ Aside0 (Kd.R (Kd.int .u8) 5 w' w.heap.size (fun _ => True) (.slice Ao12 t596.length co12) t596) ∧ Aside0 (Kd.R k65 65 w' w.heap.size (fun _ => True) (.slice Ao13 t599.length co13) t599) ∧ Aside0 (Kd.R k71 71 w' w.heap.size (fun _ => True) (.slice Ao14 t602.length co14) t602) ∧ Aside0 (w'.heap[gb592]? = some (.cells #[(.slice A0_0 l0_0.length c0_0), .int .i64 a0_1] 26 (0, 0))) ∧ Aside0 (w'.heap[gb606]? = some (.cells #[.int .i64 t593, .int .i64 t594, .int .i64 t595, (.slice Ao12 t596.length co12), (.slice Ao13 t599.length co13), (.slice Ao14 t602.length co14)] 51 (0, 0))) ∧ Aside0 (Below w.heap.size w w'))
   case atStart => exact ⟨(y607), (0), oS, H', ⟨Nat.le_refl _⟩, ⟨oR HO609⟩, ⟨oR HO601⟩, ⟨oR HO598⟩, ⟨oR HO601⟩, ⟨oR HO604⟩, ⟨oF BK592⟩, ⟨oF BK606⟩, ⟨oB⟩⟩
   case round =>
    clear H'
    try clear c4
    try clear c4b0
    try clear c4b1
    try clear c5
    obtain ⟨x8_1, x27_1, rfl, HA, HK1, HO_8, HO_25, HO_607003, HO_607004, HO_607005, BK592, BK606, HB⟩ := hrel
    cases gk with
    | zero => exact absurd HA.out (by simp [impl_List.l0])
    | succ k1 =>
     have H := HA.out
     clear HA
     simp only [impl_List.l0] at H
     replace H := itD H
     rcases H with ⟨c18b0, H⟩ | ⟨c18b0, H⟩
     ·replace H := itD H
      rcases H with ⟨c19b0, H⟩ | ⟨c19b0, H⟩
      ·replace H := itD H
       rcases H with ⟨c20b0, H⟩ | ⟨c20b0, H⟩
       ·by_cases c21 : x8_1.length < 8796093022208
        ·rw [if_pos c21] at H
         have LMc21 := Aside0.mk c21
         clear c21
         obtain ⟨y612, hy612⟩ : ∃ y_ : List ByteArray, y_ = (x8_1 ++ [(rd_T65 t599 x27_1).f0]) := ⟨_, rfl⟩
         replace H : (impl_List.l0 k1 y612 t599 (t599.length : Int) (wrap64 (x27_1 + 1))) = some (r1, r2) := by first | (rw [hy612]; with_reducible exact H) | (have H2_ := (Option.bind_some _ _).symm.trans H; rw [hy612]; with_reducible exact H2_) | (have H2_ := (Option.bind_some _ _).symm.trans H; with_reducible exact H2_) | with_reducible exact H | (rw [hy612]; exact H) | exact H
         have Ny612 := Aside0.mk hy612
         clear hy612
         have H' := Aside0.mk H
         clear H
         have p610 : (0 ≤ (x27_1 : Int)) = True := oT
         have q610 : (x27_1 < (t599.length : Int)) = True := oT
         obtain ⟨ad610, e610, hx610_0, hx610_1⟩ := at_T65 (Kd.R_reads' HO_25.out).2.2 x27_1 oa oa
         cases e610
         go_wp2_with (first | ((with_reducible refine gate_dst (N := 10) rfl ?_); refine bx_ 10 #[.string (⟨#[]⟩ : ByteArray), .int .i64 0] 65 ?_; intro gb611 hg w22 hbox hb; have BK611 := Aside0.mk (hbox); have GW611 := gs_ hg; have NB592_611 := nl_ hg BK592; have NB611_592 := nr_ hg BK592; have NB606_611 := nl_ hg BK606; have NB611_606 := nr_ hg BK606; replace HO_8 := kr_ HO_8 hb; replace HO_25 := Aside0.mk (Kd.R_below (Kd.R_elderB (oR HO_25) gb611 (Nat.le_of_eq hg.symm)) hb); replace HO_607003 := kr_ HO_607003 hb; replace HO_607004 := Aside0.mk (Kd.R_below (Kd.R_elderB (oR HO_607004) gb611 (Nat.le_of_eq hg.symm)) hb); replace HO_607005 := kr_ HO_607005 hb; replace BK592 := kb_ BK592 hb; replace BK606 := kb_ BK606 hb; replace HB := Aside0.mk (below_step oB hb); clear hb hbox hg; have hnb23 := NB611_592.out; have hnc23 := NB592_611.out; have hnb24 := NB611_606.out; have hnc24 := NB606_611.out; obtain ⟨⟨_, _⟩, _, _⟩ := z2 BK611) | ((with_reducible refine gate_builtin (b := .append) (xs := #[.tmp 31, .tmp 34]) rfl ?_); at_builtin; refine Kd.R_append Kd.string (w0 := w) w.heap.size rfl (.tmp 31) (.tmp 34) 31 9 (.string ⟨#[]⟩) 16 rfl Tryz.underlying31 info9 rfl (by decide) (by omega) u8 x8_1 ((rd_T65 t599 x27_1).f0) [.string ((rd_T65 t599 x27_1).f0)] (fun _ => True) (fun _ => False) rfl (by first | (go_simp; done) | (go_simp; rfl)) ?aP (fun _ hk => hk.elim) ?aF ?aO ?aB ?aS ?aL ?_; (case aP => exact rfl); (case aB => exact oB); (case aF => exact (fun _ _ => trivial)); (case aO => exact (by (with_reducible repeat (first | apply Kd.R_alloc | apply Kd.R_drewN | apply Kd.R_drew)); exact Kd.R_mono (Kd.R_far (p := ⟨gb611, 1, none⟩) (Kd.R_far (p := ⟨gb611, 0, none⟩) (Kd.R_types HO_8.out BK611.out (by decide)) (fun _ hk => hk.2) (.string ((rd_T65 t599 x27_1).f0))) (fun _ hk => hk.2) (.int .i64 ((rd_T65 t599 x27_1).f1))) (fun _ hk => trivial))); (case aS => exact (below_size oB)); (case aL => have := LMc21.out; omega); intro v613 w26 ho hb hg hat; rw [← Ny612.out] at ho; have HO614 := Aside0.mk (ho); replace HO_25 := Aside0.mk (Kd.R_over' (nR2 HO_25 gb611 (fun _ hk => hk.2)) (Kd.R_typed (nR1 HO_8 BK611)) (by decide) hg); replace HO_607003 := Aside0.mk (Kd.R_over' (nR1 HO_607003 BK611) (Kd.R_typed (nR1 HO_8 BK611)) (by decide) hg); replace HO_607004 := Aside0.mk (Kd.R_over' (nR2 HO_607004 gb611 (fun _ hk => hk.2)) (Kd.R_typed (nR1 HO_8 BK611)) (by decide) hg); replace HO_607005 := Aside0.mk (Kd.R_over' (nR1 HO_607005 BK611) (Kd.R_typed (nR1 HO_8 BK611)) (by decide) hg); replace BK592 := Aside0.mk (blk_grown (g := gb592) (o := .cells #[.slice A0_0 l0_0.length c0_0, .int .i64 a0_1] 26 (0, 0)) (oF BK592) hg (Kd.R_ne HO_8.out BK592.out (by decide))); replace BK606 := Aside0.mk (blk_grown (g := gb606) (o := .cells #[.int .i64 t593, .int .i64 t594, .int .i64 t595, .slice Ao12 t596.length co12, .slice (some ad610) t599.length co13, .slice Ao14 t602.length co14] 51 (0, 0)) (oF BK606) hg (Kd.R_ne HO_8.out BK606.out (by decide))); replace BK611 := Aside0.mk (blk_grown (g := gb611) (o := .cells #[.string ((rd_T65 t599 x27_1).f0), .int .i64 ((rd_T65 t599 x27_1).f1)] 65 (0, 0)) (oP BK611) hg (Kd.R_ne HO_8.out BK611.out (by decide))); replace HB := Aside0.mk (hb); clear HO_8; clear ho hb hg hat))
         go_roundg k1
         case measure => have := HK1.out; omega
         case rel => exact ⟨(y612), (wrap64 (x27_1 + 1)), oS, H', ⟨by have := HK1.out; omega⟩, ⟨oR HO614⟩, ⟨by (with_reducible repeat (first | apply Kd.R_alloc | apply Kd.R_drewN | apply Kd.R_drew)); exact Kd.R_mono HO_25.out (fun _ hk => trivial)⟩, ⟨oR HO_607003⟩, ⟨by (with_reducible repeat (first | apply Kd.R_alloc | apply Kd.R_drewN | apply Kd.R_drew)); exact Kd.R_mono HO_607004.out (fun _ hk => trivial)⟩, ⟨oR HO_607005⟩, ⟨oF BK592⟩, ⟨oF BK606⟩, ⟨oB⟩⟩
        ·rw [if_neg c21] at H
         exact absurd H (by simp)
       ·cases H
      ·cases H
     ·simp only [Option.some.injEq, Prod.mk.injEq] at H
      obtain ⟨rfl, rfl⟩ := H
      go_wp2
      go_ret2
      exact ⟨_, oE, oR HO_8, oB⟩
  ·rw [if_neg c5] at H
   have c5b0 : (t594 == 2) = false := beq_eq_false_iff_ne.mpr c5
   have c5b1 : (t594 != 2) = true := bne_iff_ne.mpr c5
   simp only [Option.some.injEq, Prod.mk.injEq] at H
   obtain ⟨rfl, rfl⟩ := H
   go_enter Tryz.func33, Tryz.ntmps33
   go_wp2_with (first | ((with_reducible refine gate_dst (N := 2) rfl ?_); refine bx_ 2 #[.slice A0_0 l0_0.length c0_0, .int .i64 a0_1] 26 ?_; intro gb592 hg w27 hbox hb; have BK592 := Aside0.mk (hbox); have GW592 := gs_ hg; replace HB := Aside0.mk (below_step oB hb); clear hb hbox hg; obtain ⟨⟨_, _⟩, _, _⟩ := z2 BK592) | ((with_reducible refine gate_callee (f := 28) rfl ?_); refine gl_ 14 Tryz.func28 (impl_Stat.calls k _ _ l0_0 a0_1 a1 t593 t594 t595 t596 t599 t602 t605 _ (kC HR0_0) HC0_0.out A3.out) ?_; rintro e w29 ⟨v597, v600, v603, rfl, ho0, ho1, ho2, hb⟩; refine ⟨_, rfl, ?_⟩; have HO598 := Aside0.mk (Kd.R_lower ho0 (below_size oB)); have HO601 := Aside0.mk (Kd.R_lower ho1 (below_size oB)); have HO604 := Aside0.mk (Kd.R_lower ho2 (below_size oB)); replace BK592 := kb_ BK592 hb; replace HB := Aside0.mk (below_step oB hb); (try clear ho1); (try clear ho2)) | ((with_reducible refine gate_dst (N := 6) rfl ?_); refine bx_ 6 #[.int .i64 0, .int .i64 0, .int .i64 0, .slice none 0 0, .slice none 0 0, .slice none 0 0] 51 ?_; intro gb606 hg w30 hbox hb; have BK606 := Aside0.mk (hbox); have GW606 := gs_ hg; have NB592_606 := nl_ hg BK592; have NB606_592 := nr_ hg BK592; replace HO598 := kr_ HO598 hb; replace HO601 := kr_ HO601 hb; replace HO604 := kr_ HO604 hb; replace BK592 := kb_ BK592 hb; replace HB := Aside0.mk (below_step oB hb); clear hb hbox hg; have hnb31 := NB606_592.out; have hnc31 := NB592_606.out; obtain ⟨⟨_, _, _, _, _, _⟩, _, _, _, _, _, _⟩ := z6 BK606; obtain ⟨Ao33, co33, eo33⟩ := Kd.R_slice HO598.out; subst eo33; obtain ⟨Ao34, co34, eo34⟩ := Kd.R_slice HO601.out; subst eo34; obtain ⟨Ao35, co35, eo35⟩ := Kd.R_slice HO604.out; subst eo35))
   go_ret2
   exact ⟨_, oE, by first | exact Kd.R_nil _ _ _ _ _ | exact Kd.N_nil _ _ _ _ _ | exact Kd.V_nil _ _ _ _ _ | exact Kd.Q_nil _ _ _ _ _ | exact Kd.S_nil _ _ _ _ _, oB⟩
 ·rw [if_neg c4] at H
  have c4b0 : (t605 == 0) = false := beq_eq_false_iff_ne.mpr c4
  have c4b1 : (t605 != 0) = true := bne_iff_ne.mpr c4
  simp only [Option.some.injEq, Prod.mk.injEq] at H
  obtain ⟨rfl, rfl⟩ := H
  go_enter Tryz.func33, Tryz.ntmps33
  go_wp2_with (first | ((with_reducible refine gate_dst (N := 2) rfl ?_); refine bx_ 2 #[.slice A0_0 l0_0.length c0_0, .int .i64 a0_1] 26 ?_; intro gb592 hg w36 hbox hb; have BK592 := Aside0.mk (hbox); have GW592 := gs_ hg; replace HB := Aside0.mk (below_step oB hb); clear hb hbox hg; obtain ⟨⟨_, _⟩, _, _⟩ := z2 BK592) | ((with_reducible refine gate_callee (f := 28) rfl ?_); refine gl_ 14 Tryz.func28 (impl_Stat.calls k _ _ l0_0 a0_1 a1 t593 t594 t595 t596 t599 t602 t605 _ (kC HR0_0) HC0_0.out A3.out) ?_; rintro e w38 ⟨v597, v600, v603, rfl, ho0, ho1, ho2, hb⟩; refine ⟨_, rfl, ?_⟩; have HO598 := Aside0.mk (Kd.R_lower ho0 (below_size oB)); have HO601 := Aside0.mk (Kd.R_lower ho1 (below_size oB)); have HO604 := Aside0.mk (Kd.R_lower ho2 (below_size oB)); replace BK592 := kb_ BK592 hb; replace HB := Aside0.mk (below_step oB hb); (try clear ho1); (try clear ho2)) | ((with_reducible refine gate_dst (N := 6) rfl ?_); refine bx_ 6 #[.int .i64 0, .int .i64 0, .int .i64 0, .slice none 0 0, .slice none 0 0, .slice none 0 0] 51 ?_; intro gb606 hg w39 hbox hb; have BK606 := Aside0.mk (hbox); have GW606 := gs_ hg; have NB592_606 := nl_ hg BK592; have NB606_592 := nr_ hg BK592; replace HO598 := kr_ HO598 hb; replace HO601 := kr_ HO601 hb; replace HO604 := kr_ HO604 hb; replace BK592 := kb_ BK592 hb; replace HB := Aside0.mk (below_step oB hb); clear hb hbox hg; have hnb40 := NB606_592.out; have hnc40 := NB592_606.out; obtain ⟨⟨_, _, _, _, _, _⟩, _, _, _, _, _, _⟩ := z6 BK606; obtain ⟨Ao42, co42, eo42⟩ := Kd.R_slice HO598.out; subst eo42; obtain ⟨Ao43, co43, eo43⟩ := Kd.R_slice HO601.out; subst eo43; obtain ⟨Ao44, co44, eo44⟩ := Kd.R_slice HO604.out; subst eo44))
  go_ret2
  exact ⟨_, oE, by first | exact Kd.R_nil _ _ _ _ _ | exact Kd.N_nil _ _ _ _ _ | exact Kd.V_nil _ _ _ _ _ | exact Kd.Q_nil _ _ _ _ _ | exact Kd.S_nil _ _ _ _ _, oB⟩

/-! ### impl_RemoveDir: function 34 -/
def impl_RemoveDir.j0 : Nat → ByteArray → Bool → List (S51) → Int → Option ((List (S51)) × Int × Int)
 | 0, _, _, _, _ => none
 | k + 1, x1, x20, x616000, x616001 => if x20 = true then (some (x616000, x616001, 1)) else ((impl_Stat.f k x616000 x616001 x1).bind fun bt625 => (if bt625.2.2.2.2.2.2 = 0 then (if bt625.2.1 = 2 then (if (bt625.2.2.2.2.1.length : Int) > 0 then (some (x616000, x616001, 6)) else ((impl_spotOf.f k x616000 x616001 x1).bind fun bt639 => ((impl_spot_leave.f k bt639.1 bt639.2.1 bt639.2.2.1 bt639.2.2.2.1 bt639.2.2.2.2.1 bt639.2.2.2.2.2.1 bt639.2.2.2.2.2.2.1 x616000 x616001).bind fun bt654 => ((impl_DropInode.f k bt654.1 bt654.2 bt625.1).bind fun bt658 => (some (bt658.1, bt658.2, 0)))))) else (some (x616000, x616001, 3))) else (some (x616000, x616001, bt625.2.2.2.2.2.2))))
def impl_RemoveDir.f (k : Nat) (l0_0 : List (S51)) (a0_1 : Int) (a1 : ByteArray) : Option ((List (S51)) × Int × Int) := (impl_copyTab.f k l0_0 a0_1).bind fun bt617 => ((impl_ready.f k bt617.1 bt617.2 (([a1] : List ByteArray))).bind fun t624 => (if t624 = true then (impl_RemoveDir.j0 k a1 (a1.toList == ([47] : List UInt8)) bt617.1 bt617.2) else (impl_RemoveDir.j0 k a1 true bt617.1 bt617.2)))
def impl_RemoveDir.T12 : Bool × List (List Nat × List Nat) := (true, [([], []), ([], []), ([0, 1], [0, 1]), ([], []), ([3], [3]), ([2, 4, 2], [2, 4]), ([5, 5, 0, 1, 2, 3, 4, 5], [5]), ([6, 0, 1, 2, 3, 4, 5, 6], [])])
def impl_RemoveDir.B12 : List Nat := [0, 0, 3, 0, 8, 31, 63, 127]
theorem impl_RemoveDir.tab12 : rtab .any (opsOf Tryz.f34 12) = impl_RemoveDir.T12 := by kernel_rfl
theorem impl_RemoveDir.bits12 : waitsOk impl_RemoveDir.T12.2 impl_RemoveDir.B12 = true := by kernel_rfl
set_option maxHeartbeats 8000000 in
set_option maxRecDepth 100000 in
theorem impl_RemoveDir.calls (k : Nat) (A0_0 : Option Addr) (c0_0 : Nat) (l0_0 : List (S51)) (a0_1 : Int) (a1 : ByteArray) (r1 : List (S51)) (r2 : Int) (r3 : Int) (w : World) (hr0_0 : Kd.C k51 w A0_0 l0_0.length l0_0) (hc0_0 : l0_0.length ≤ c0_0) (h : impl_RemoveDir.f k l0_0 a0_1 a1 = some (r1, r2, r3)) (hG : GOk w := by exact gk_ oB (by first | (with_reducible assumption) | assumption)) :
  Calls Tryz.prog 34 #[.agg #[.slice A0_0 l0_0.length c0_0, .int .i64 a0_1], .string a1] w fun e w' => ∃ v0_ : Value, e = .returned (.tuple #[.agg #[v0_, .int .i64 r2], .int .i64 r3]) ∧ Kd.S k51 51 w' w.heap.size (fun _ => True) v0_ r1 ∧ Below w.heap.size w w' := by
 have HG := Aside0.mk hG
 clear hG
 have hu26 := Tryz.underlying26
 have hu51 := Tryz.underlying51
 have hu84 := Tryz.underlying84
 have HR0_0 := Aside0.mk hr0_0
 have HC0_0 := Aside0.mk hc0_0
 clear hr0_0 hc0_0
 have HB := Aside0.mk (Below.refl w.heap.size w)
 unfold impl_RemoveDir.f at h
 have H := h
 clear h
 replace H := bA H
 obtain ⟨⟨t617, t620⟩, A3, H⟩ := H
 try dsimp only at H
 have HC4 := Aside0.mk H
 clear H
 go_enter Tryz.func34, Tryz.ntmps34
 go_upto_region 2 with (first | ((with_reducible refine gate_dst (N := 2) rfl ?_); refine bx_ 2 #[.slice A0_0 l0_0.length c0_0, .int .i64 a0_1] 26 ?_; intro gb615 hg w5 hbox hb; have BK615 := Aside0.mk (hbox); have GW615 := gs_ hg; replace HB := Aside0.mk (below_step oB hb); clear hb hbox hg) | ((with_reducible refine gate_dst (N := 4) rfl ?_); refine bx_ 4 #[.slice none 0 0, .int .i64 0] 26 ?_; intro gb616 hg w6 hbox hb; have BK616 := Aside0.mk (hbox); have GW616 := gs_ hg; have NB615_616 := nl_ hg BK615; have NB616_615 := nr_ hg BK615; replace BK615 := kb_ BK615 hb; replace HB := Aside0.mk (below_step oB hb); clear hb hbox hg; have hnb7 := NB615_616.out; have hnc7 := NB616_615.out; obtain ⟨⟨_, _⟩, _, _⟩ := z2 BK615) | ((with_reducible refine gate_callee (f := 45) rfl ?_); refine gl_ 11 Tryz.func45 (impl_copyTab.calls k _ _ l0_0 a0_1 t617 t620 _ (kC HR0_0) HC0_0.out A3.out) ?_; rintro e w9 ⟨v618, rfl, ho0, hb⟩; refine ⟨_, rfl, ?_⟩; have HO619 := Aside0.mk (Kd.S_lower ho0 (below_size oB)); replace BK615 := kb_ BK615 hb; replace BK616 := kb_ BK616 hb; replace HB := Aside0.mk (below_step oB hb); obtain ⟨Ao10, co10, eo10⟩ := Kd.S_slice HO619.out; subst eo10; obtain ⟨⟨_, _⟩, _, _⟩ := z2 BK615))
 (try simp only [Act.put, List.setIfInBounds_toArray, List.set_cons_zero, List.set_cons_succ])
 go_cut [20] (fun v20 wc => ∃ (kq : Nat) (x20_3 : Bool), v20 = .bool x20_3 ∧ Aside0 (impl_RemoveDir.j0 kq a1 x20_3 t617 t620 = some (r1, r2, r3)) ∧ Aside0 (kq ≤ k) ∧ Aside0 (Kd.S k51 51 wc w.heap.size (fun _ => True) (.slice Ao10 t617.length co10) t617) ∧ Aside0 (wc.heap[gb615]? = some (.cells #[(.slice Ao10 t617.length co10), .int .i64 t620] 26 (0, 0))) ∧ Aside0 (wc.heap[gb616]? = some (.cells #[(.slice none 0 0), .int .i64 0] 26 (0, 0))) ∧ Aside0 (Below w.heap.size w wc))
 case first =>
  have H := HC4.out
  clear HC4
  obtain ⟨y621, hy621⟩ : ∃ y_ : List ByteArray, y_ = (([a1] : List ByteArray)) := ⟨_, rfl⟩
  replace H : ((impl_ready.f k t617 t620 y621).bind fun t624 => (if t624 = true then (impl_RemoveDir.j0 k a1 (a1.toList == ([47] : List UInt8)) t617 t620) else (impl_RemoveDir.j0 k a1 true t617 t620))) = some (r1, r2, r3) := by first | (rw [hy621]; with_reducible exact H) | (have H2_ := (Option.bind_some _ _).symm.trans H; rw [hy621]; with_reducible exact H2_) | (have H2_ := (Option.bind_some _ _).symm.trans H; with_reducible exact H2_) | with_reducible exact H | (rw [hy621]; exact H) | exact H
  have Ny621 := Aside0.mk hy621
  clear hy621
  replace H := bA H
  obtain ⟨t624, A12, H⟩ := H
  try dsimp only at H
  replace H := itB H
  rcases H with ⟨rfl, H⟩ | ⟨rfl, H⟩
  ·have H' := Aside0.mk H
   clear H
   have hnb14 := NB615_616.out
   have hnc14 := NB616_615.out
   obtain ⟨⟨_, _⟩, _, _⟩ := z2 BK615
   go_wp2_with (first | ((with_reducible refine gate_dst (N := 14) rfl ?_); refine Kd.R_lit Kd.string _ 9 ?hg (N := 14) ?hd (xs := ([a1] : List ByteArray)) (inner := [.string a1]) (ok := fun _ => True) (okp := fun _ => True) ?hr ?hp (fun _ hk => hk) trivial (Below.refl _ _) (Nat.le_refl _) (by simp) ?_; (case hd => rfl); (case hg => rfl); (case hr => first | (go_simp; done) | (go_simp; rfl)); (case hp => exact (Reps.one (show Kd.M Kd.string _ _ _ a1 [.string a1] from rfl) (Reps.none _ _))); intro v622 w16 ho17 hb hg_ hnew_; clear hg_ hnew_; (first | rw [← Ny621.out] at ho17 | (simp only [Int.reduceToNat] at ho17; rw [← Ny621.out] at ho17)); have HO623 := Aside0.mk (Kd.R_lower ho17 (below_size oB)); replace HO619 := beS1 HO619 BK615 hb; replace BK615 := kp_ #[.slice Ao10 t617.length co10, .int .i64 t620] BK615 hb; replace BK616 := kb_ BK616 hb; replace HB := Aside0.mk (below_step oB hb); clear hb ho17; obtain ⟨Ao18, co18, eo18⟩ := Kd.R_slice HO623.out; subst eo18) | ((with_reducible refine gate_callee (f := 46) rfl ?_); refine gl_ 15 Tryz.func46 (impl_ready.calls k _ _ t617 t620 _ _ y621 true _ (rcS0 HO619) (rnS HO619) (kO HO623) (ko HO623) A12.out) ?_; rintro e w19 ⟨rfl, hb⟩; refine ⟨_, rfl, ?_⟩; replace HO619 := beS0 HO619 hb; replace HO623 := kr_ HO623 hb; replace BK615 := kb_ BK615 hb; replace BK616 := kb_ BK616 hb; replace HB := Aside0.mk (below_step oB hb)))
   go_meet
   case rel => exact ⟨_, ((a1.toList == ([47] : List UInt8))), oS, H', ⟨by first | omega | exact Nat.le_refl _⟩, ⟨by (with_reducible repeat (first | apply Kd.S_alloc | apply Kd.S_drewN | apply Kd.S_drew)); exact HO619.out⟩, ⟨oF BK615⟩, ⟨oF BK616⟩, ⟨oB⟩⟩
  ·have H' := Aside0.mk H
   clear H
   have hnb20 := NB615_616.out
   have hnc20 := NB616_615.out
   obtain ⟨⟨_, _⟩, _, _⟩ := z2 BK615
   go_wp2_with (first | ((with_reducible refine gate_dst (N := 14) rfl ?_); refine Kd.R_lit Kd.string _ 9 ?hg (N := 14) ?hd (xs := ([a1] : List ByteArray)) (inner := [.string a1]) (ok := fun _ => True) (okp := fun _ => True) ?hr ?hp (fun _ hk => hk) trivial (Below.refl _ _) (Nat.le_refl _) (by simp) ?_; (case hd => rfl); (case hg => rfl); (case hr => first | (go_simp; done) | (go_simp; rfl)); (case hp => exact (Reps.one (show Kd.M Kd.string _ _ _ a1 [.string a1] from rfl) (Reps.none _ _))); intro v622 w22 ho23 hb hg_ hnew_; clear hg_ hnew_; (first | rw [← Ny621.out] at ho23 | (simp only [Int.reduceToNat] at ho23; rw [← Ny621.out] at ho23)); have HO623 := Aside0.mk (Kd.R_lower ho23 (below_size oB)); replace HO619 := beS1 HO619 BK615 hb; replace BK615 := kp_ #[.slice Ao10 t617.length co10, .int .i64 t620] BK615 hb; replace BK616 := kb_ BK616 hb; replace HB := Aside0.mk (below_step oB hb); clear hb ho23; obtain ⟨Ao24, co24, eo24⟩ := Kd.R_slice HO623.out; subst eo24) | ((with_reducible refine gate_callee (f := 46) rfl ?_); refine gl_ 15 Tryz.func46 (impl_ready.calls k _ _ t617 t620 _ _ y621 false _ (rcS0 HO619) (rnS HO619) (kO HO623) (ko HO623) A12.out) ?_; rintro e w25 ⟨rfl, hb⟩; refine ⟨_, rfl, ?_⟩; replace HO619 := beS0 HO619 hb; replace HO623 := kr_ HO623 hb; replace BK615 := kb_ BK615 hb; replace BK616 := kb_ BK616 hb; replace HB := Aside0.mk (below_step oB hb)))
   go_meet
   case rel => exact ⟨_, (true), oS, H', ⟨by first | omega | exact Nat.le_refl _⟩, ⟨by (with_reducible repeat (first | apply Kd.S_alloc | apply Kd.S_drewN | apply Kd.S_drew)); exact HO619.out⟩, ⟨oF BK615⟩, ⟨oF BK616⟩, ⟨oB⟩⟩
 case rest =>
  clear HC4
  obtain ⟨kq, x20_3, rfl, HA, HJ3, HO_616000, BK615, BK616, HB⟩ := hcut
  cases kq with
  | zero => exact absurd HA.out (by simp [impl_RemoveDir.j0])
  | succ kj3 =>
   have H := HA.out
   clear HA
   simp only [impl_RemoveDir.j0] at H
   replace H := itB H
   rcases H with ⟨rfl, H⟩ | ⟨rfl, H⟩
   ·simp only [Option.some.injEq, Prod.mk.injEq] at H
    obtain ⟨rfl, rfl, rfl⟩ := H
    have hnb27 := NB615_616.out
    have hnc27 := NB616_615.out
    obtain ⟨⟨_, _⟩, _, _⟩ := z2 BK615
    obtain ⟨⟨_, _⟩, _, _⟩ := z2 BK616
    go_wp2
    refine bodyPost_ret (results_ct rfl _ _ gb616 26 #[.slice Ao10 t617.length co10, .int .i64 t620] (0, 0) _ rfl (oP BK616) Tryz.underlying26 rfl (by kernel_rfl)) rfl ?_
    exact ⟨_, oE, by (with_reducible repeat (first | apply Kd.S_alloc | apply Kd.S_drewN | apply Kd.S_drew)); exact Kd.S_mono (Kd.S_far (p := ⟨gb616, 1, none⟩) (Kd.S_far (p := ⟨gb616, 0, none⟩) (Kd.S_types HO_616000.out BK616.out (by decide)) (fun _ hk => hk.2) (.slice Ao10 t617.length co10)) (fun _ hk => hk.2) (.int .i64 t620)) (fun _ hk => trivial), oB⟩
   ·replace H := bA H
    obtain ⟨⟨t625, t626, t627, t628, t631, t634, t637⟩, A30, H⟩ := H
    try dsimp only at H
    by_cases c31 : t637 = 0
    ·rw [if_pos c31] at H
     have c31b0 : (t637 == 0) = true := beq_iff_eq.mpr c31
     have c31b1 : (t637 != 0) = false := bne_eq_false_iff_eq.mpr c31
     clear c31
     by_cases c32 : t626 = 2
     ·rw [if_pos c32] at H
      have c32b0 : (t626 == 2) = true := beq_iff_eq.mpr c32
      have c32b1 : (t626 != 2) = false := bne_eq_false_iff_eq.mpr c32
      clear c32
      by_cases c33 : (t631.length : Int) > 0
      ·rw [if_pos c33] at H
       have c33b0 : decide (0 < (t631.length : Int)) = true := decide_eq_true c33
       have c33b1 : decide (0 < t631.length) = true := decide_eq_true (by omega)
       clear c33
       simp only [Option.some.injEq, Prod.mk.injEq] at H
       obtain ⟨rfl, rfl, rfl⟩ := H
       have hnb34 := NB615_616.out
       have hnc34 := NB616_615.out
       obtain ⟨⟨_, _⟩, _, _⟩ := z2 BK615
       go_wp2_with (first | ((with_reducible refine gate_callee (f := 28) rfl ?_); refine gl_ 25 Tryz.func28 (impl_Stat.calls kj3 _ _ t617 t620 a1 t625 t626 t627 t628 t631 t634 t637 _ (rcS0 HO_616000) (rnS HO_616000) A30.out) ?_; rintro e w36 ⟨v629, v632, v635, rfl, ho0, ho1, ho2, hb⟩; refine ⟨_, rfl, ?_⟩; have HO630 := Aside0.mk (Kd.R_lower ho0 (below_size oB)); have HO633 := Aside0.mk (Kd.R_lower ho1 (below_size oB)); have HO636 := Aside0.mk (Kd.R_lower ho2 (below_size oB)); replace HO_616000 := tdS3 (olS0 HO_616000 hb) (Kd.R_base ho0) (Kd.R_base ho1) (Kd.R_base ho2); replace BK615 := kb_ BK615 hb; replace BK616 := kb_ BK616 hb; replace HB := Aside0.mk (below_step oB hb); (try clear ho1); (try clear ho2)) | ((with_reducible refine gate_dst (N := 6) rfl ?_); refine bx_ 6 #[.int .i64 0, .int .i64 0, .int .i64 0, .slice none 0 0, .slice none 0 0, .slice none 0 0] 51 ?_; intro gb638 hg w37 hbox hb; have BK638 := Aside0.mk (hbox); have GW638 := gs_ hg; have NB615_638 := nl_ hg BK615; have NB638_615 := nr_ hg BK615; have NB616_638 := nl_ hg BK616; have NB638_616 := nr_ hg BK616; replace HO_616000 := Aside0.mk (Kd.S_below (Kd.S_elderB (nS0 HO_616000) gb638 (Nat.le_of_eq hg.symm)) hb); replace HO630 := kr_ HO630 hb; replace HO633 := kr_ HO633 hb; replace HO636 := kr_ HO636 hb; replace BK615 := kb_ BK615 hb; replace BK616 := kb_ BK616 hb; replace HB := Aside0.mk (below_step oB hb); clear hb hbox hg; have hnb38 := NB638_615.out; have hnc38 := NB615_638.out; have hnb39 := NB638_616.out; have hnc39 := NB616_638.out; obtain ⟨⟨_, _, _, _, _, _⟩, _, _, _, _, _, _⟩ := z6 BK638; obtain ⟨Ao41, co41, eo41⟩ := Kd.R_slice HO630.out; subst eo41; obtain ⟨Ao42, co42, eo42⟩ := Kd.R_slice HO633.out; subst eo42; obtain ⟨Ao43, co43, eo43⟩ := Kd.R_slice HO636.out; subst eo43; obtain ⟨⟨_, _⟩, _, _⟩ := z2 BK615; obtain ⟨⟨_, _⟩, _, _⟩ := z2 BK616))
       refine bodyPost_ret (results_ct rfl _ _ gb616 26 #[.slice Ao10 t617.length co10, .int .i64 t620] (0, 0) _ rfl (oP BK616) Tryz.underlying26 rfl (by kernel_rfl)) rfl ?_
       exact ⟨_, oE, by (with_reducible repeat (first | apply Kd.S_alloc | apply Kd.S_drewN | apply Kd.S_drew)); exact Kd.S_mono (Kd.S_far (p := ⟨gb616, 1, none⟩) (Kd.S_far (p := ⟨gb616, 0, none⟩) (Kd.S_far (p := ⟨gb638, 5, none⟩) (Kd.S_far (p := ⟨gb638, 4, none⟩) (Kd.S_far (p := ⟨gb638, 3, none⟩) (Kd.S_far (p := ⟨gb638, 2, none⟩) (Kd.S_far (p := ⟨gb638, 1, none⟩) (Kd.S_far (p := ⟨gb638, 0, none⟩) (Kd.S_types (Kd.S_mono HO_616000.out (fun k_ hk => (⟨hk, hk.2⟩ : _ ∧ k_ ≠ gb638))) BK616.out (by decide)) (fun _ hk => hk.1.2) (.int .i64 t625)) (fun _ hk => hk.1.2) (.int .i64 t626)) (fun _ hk => hk.1.2) (.int .i64 t627)) (fun _ hk => hk.1.2) (.slice Ao41 t628.length co41)) (fun _ hk => hk.1.2) (.slice Ao42 t631.length co42)) (fun _ hk => hk.1.2) (.slice Ao43 t634.length co43)) (fun _ hk => hk.2) (.slice Ao10 t617.length co10)) (fun _ hk => hk.2) (.int .i64 t620)) (fun _ hk => trivial), oB⟩
      ·rw [if_neg c33] at H
       have c33b0 : decide (0 < (t631.length : Int)) = false := decide_eq_false c33
       have c33b1 : decide (0 < t631.length) = false := decide_eq_false (by omega)
       clear c33
       replace H := bA H
       obtain ⟨⟨t639, t640, t641, t642, t645, t648, t651, t652⟩, A46, H⟩ := H
       try dsimp only at H
       replace H := bA H
       obtain ⟨⟨t654, t657⟩, A47, H⟩ := H
       try dsimp only at H
       replace H := bA H
       obtain ⟨⟨t658, t661⟩, A48, H⟩ := H
       try dsimp only at H
       simp only [Option.some.injEq, Prod.mk.injEq] at H
       obtain ⟨rfl, rfl, rfl⟩ := H
       have hnb49 := NB615_616.out
       have hnc49 := NB616_615.out
       obtain ⟨⟨_, _⟩, _, _⟩ := z2 BK615
       try go_wp2_with (first | ((with_reducible refine gate_callee (f := 28) rfl ?_); refine gl_ 25 Tryz.func28 (impl_Stat.calls kj3 _ _ t617 t620 a1 t625 t626 t627 t628 t631 t634 t637 _ (rcS0 HO_616000) (rnS HO_616000) A30.out) ?_; rintro e w51 ⟨v629, v632, v635, rfl, ho0, ho1, ho2, hb⟩; refine ⟨_, rfl, ?_⟩; have HO630 := Aside0.mk (Kd.R_lower ho0 (below_size oB)); have HO633 := Aside0.mk (Kd.R_lower ho1 (below_size oB)); have HO636 := Aside0.mk (Kd.R_lower ho2 (below_size oB)); replace HO_616000 := tdS3 (olS0 HO_616000 hb) (Kd.R_base ho0) (Kd.R_base ho1) (Kd.R_base ho2); replace BK615 := kb_ BK615 hb; replace BK616 := kb_ BK616 hb; replace HB := Aside0.mk (below_step oB hb); (try clear ho1); (try clear ho2)) | ((with_reducible refine gate_dst (N := 6) rfl ?_); refine bx_ 6 #[.int .i64 0, .int .i64 0, .int .i64 0, .slice none 0 0, .slice none 0 0, .slice none 0 0] 51 ?_; intro gb638 hg w52 hbox hb; have BK638 := Aside0.mk (hbox); have GW638 := gs_ hg; have NB615_638 := nl_ hg BK615; have NB638_615 := nr_ hg BK615; have NB616_638 := nl_ hg BK616; have NB638_616 := nr_ hg BK616; replace HO_616000 := Aside0.mk (Kd.S_below (Kd.S_elderB (nS0 HO_616000) gb638 (Nat.le_of_eq hg.symm)) hb); replace HO630 := kr_ HO630 hb; replace HO633 := kr_ HO633 hb; replace HO636 := kr_ HO636 hb; replace BK615 := kb_ BK615 hb; replace BK616 := kb_ BK616 hb; replace HB := Aside0.mk (below_step oB hb); clear hb hbox hg; have hnb53 := NB638_615.out; have hnc53 := NB615_638.out; have hnb54 := NB638_616.out; have hnc54 := NB616_638.out; obtain ⟨⟨_, _, _, _, _, _⟩, _, _, _, _, _, _⟩ := z6 BK638; obtain ⟨Ao56, co56, eo56⟩ := Kd.R_slice HO630.out; subst eo56; obtain ⟨Ao57, co57, eo57⟩ := Kd.R_slice HO633.out; subst eo57; obtain ⟨Ao58, co58, eo58⟩ := Kd.R_slice HO636.out; subst eo58; obtain ⟨⟨_, _⟩, _, _⟩ := z2 BK615) | ((with_reducible refine gate_callee (f := 57) rfl ?_); refine gl_ 47 Tryz.func57 (impl_spotOf.calls kj3 _ _ t617 t620 a1 t639 t640 t641 t642 t645 t648 t651 t652 _ (rcS2 HO_616000 gb638 (fun _ hk => hk.2)) (rnS HO_616000) A46.out) ?_; rintro e w60 ⟨v643, v646, v649, rfl, ho0, ho1, ho2, hb⟩; refine ⟨_, rfl, ?_⟩; have HO644 := Aside0.mk (Kd.R_lower (Kd.R_new' ho0 (ltR1 HO630 BK638)) (below_size oB)); have HO647 := Aside0.mk (Kd.R_lower (Kd.R_new' ho1 (ltR1 HO633 BK638)) (below_size oB)); have HO650 := Aside0.mk (Kd.R_lower (Kd.R_new' ho2 (ltR1 HO636 BK638)) (below_size oB)); replace HO_616000 := tdS3 (olS2 HO_616000 gb638 (fun _ hk => hk.2) hb) (Kd.R_base ho0) (Kd.R_base ho1) (Kd.R_base ho2); replace HO630 := elR1 HO630 BK638 (Kd.R_base ho0) hb; replace HO633 := elR1 HO633 BK638 (Kd.R_base ho1) hb; replace HO636 := elR1 HO636 BK638 (Kd.R_base ho2) hb; replace BK615 := kb_ BK615 hb; replace BK616 := kb_ BK616 hb; replace BK638 := kp_ #[.int .i64 t625, .int .i64 t626, .int .i64 t627, .slice Ao56 t628.length co56, .slice Ao57 t631.length co57, .slice Ao58 t634.length co58] BK638 hb; replace HB := Aside0.mk (below_step oB hb); (try clear hk); (try clear ho1); (try clear ho2)) | ((with_reducible refine gate_dst (N := 8) rfl ?_); refine bx_ 8 #[.int .i64 0, .int .i64 0, .int .i64 0, .slice none 0 0, .slice none 0 0, .slice none 0 0, .string (⟨#[]⟩ : ByteArray)] 84 ?_; intro gb653 hg w61 hbox hb; have BK653 := Aside0.mk (hbox); have GW653 := gs_ hg; have NB615_653 := nl_ hg BK615; have NB653_615 := nr_ hg BK615; have NB616_653 := nl_ hg BK616; have NB653_616 := nr_ hg BK616; have NB638_653 := nl_ hg BK638; have NB653_638 := nr_ hg BK638; replace HO_616000 := beS0 HO_616000 hb; replace HO630 := kr_ HO630 hb; replace HO633 := kr_ HO633 hb; replace HO636 := kr_ HO636 hb; replace HO644 := kr_ HO644 hb; replace HO647 := kr_ HO647 hb; replace HO650 := kr_ HO650 hb; replace BK615 := kb_ BK615 hb; replace BK616 := kb_ BK616 hb; replace BK638 := kb_ BK638 hb; replace HB := Aside0.mk (below_step oB hb); clear hb hbox hg; have hnb62 := NB653_615.out; have hnc62 := NB615_653.out; have hnb63 := NB653_616.out; have hnc63 := NB616_653.out; have hnb64 := NB653_638.out; have hnc64 := NB638_653.out; obtain ⟨⟨_, _, _, _, _, _, _⟩, _, _, _, _, _, _, _⟩ := z7 BK653; obtain ⟨Ao66, co66, eo66⟩ := Kd.R_slice HO644.out; subst eo66; obtain ⟨Ao67, co67, eo67⟩ := Kd.R_slice HO647.out; subst eo67; obtain ⟨Ao68, co68, eo68⟩ := Kd.R_slice HO650.out; subst eo68))
       have n0_ : Aside0 (Kd.S k51 51 (((((((w61.setCell ⟨gb653, 0, none⟩ (.int .i64 t639)).setCell ⟨gb653, 1, none⟩ (.int .i64 t640)).setCell ⟨gb653, 2, none⟩ (.int .i64 t641)).setCell ⟨gb653, 3, none⟩ (.slice Ao66 t642.length co66)).setCell ⟨gb653, 4, none⟩ (.slice Ao67 t645.length co67)).setCell ⟨gb653, 5, none⟩ (.slice Ao68 t648.length co68)).setCell ⟨gb653, 6, none⟩ (.string t651)) w.heap.size (fun k_ => some k_ ≠ (.slice Ao56 t628.length co56 : Value).ownBlock ∧ some k_ ≠ (.slice Ao57 t631.length co57 : Value).ownBlock ∧ some k_ ≠ (.slice Ao58 t634.length co58 : Value).ownBlock ∧ some k_ ≠ (.slice Ao66 t642.length co66 : Value).ownBlock ∧ some k_ ≠ (.slice Ao67 t645.length co67 : Value).ownBlock ∧ some k_ ≠ (.slice Ao68 t648.length co68 : Value).ownBlock ∧ k_ ≠ gb638) (.slice Ao10 t617.length co10) t617) := ⟨by (with_reducible repeat (first | apply Kd.S_alloc | apply Kd.S_drewN | apply Kd.S_drew)); exact Kd.S_mono (Kd.S_far (p := ⟨gb653, 6, none⟩) (Kd.S_far (p := ⟨gb653, 5, none⟩) (Kd.S_far (p := ⟨gb653, 4, none⟩) (Kd.S_far (p := ⟨gb653, 3, none⟩) (Kd.S_far (p := ⟨gb653, 2, none⟩) (Kd.S_far (p := ⟨gb653, 1, none⟩) (Kd.S_far (p := ⟨gb653, 0, none⟩) (Kd.S_types HO_616000.out BK653.out (by decide)) (fun _ hk => hk.2) (.int .i64 t639)) (fun _ hk => hk.2) (.int .i64 t640)) (fun _ hk => hk.2) (.int .i64 t641)) (fun _ hk => hk.2) (.slice Ao66 t642.length co66)) (fun _ hk => hk.2) (.slice Ao67 t645.length co67)) (fun _ hk => hk.2) (.slice Ao68 t648.length co68)) (fun _ hk => hk.2) (.string t651)) (fun _ hk => ⟨hk.1.1.1.1.1.1.1.2, ⟨hk.1.1.1.1.1.1.2, ⟨hk.1.1.1.1.1.2, ⟨hk.1.1.1.2, ⟨hk.1.1.2, ⟨hk.1.2, hk.1.1.1.1.2⟩⟩⟩⟩⟩⟩)⟩
       have n1_ : Aside0 (Kd.R (Kd.int .u8) 5 (((((((w61.setCell ⟨gb653, 0, none⟩ (.int .i64 t639)).setCell ⟨gb653, 1, none⟩ (.int .i64 t640)).setCell ⟨gb653, 2, none⟩ (.int .i64 t641)).setCell ⟨gb653, 3, none⟩ (.slice Ao66 t642.length co66)).setCell ⟨gb653, 4, none⟩ (.slice Ao67 t645.length co67)).setCell ⟨gb653, 5, none⟩ (.slice Ao68 t648.length co68)).setCell ⟨gb653, 6, none⟩ (.string t651)) w.heap.size (fun k_ => some k_ ≠ (.slice Ao66 t642.length co66 : Value).ownBlock) (.slice Ao56 t628.length co56) t628) := ⟨by (with_reducible repeat (first | apply Kd.R_alloc | apply Kd.R_drewN | apply Kd.R_drew)); exact Kd.R_mono (Kd.R_far (p := ⟨gb653, 6, none⟩) (Kd.R_far (p := ⟨gb653, 5, none⟩) (Kd.R_far (p := ⟨gb653, 4, none⟩) (Kd.R_far (p := ⟨gb653, 3, none⟩) (Kd.R_far (p := ⟨gb653, 2, none⟩) (Kd.R_far (p := ⟨gb653, 1, none⟩) (Kd.R_far (p := ⟨gb653, 0, none⟩) (Kd.R_types HO630.out BK653.out (by decide)) (fun _ hk => hk.2) (.int .i64 t639)) (fun _ hk => hk.2) (.int .i64 t640)) (fun _ hk => hk.2) (.int .i64 t641)) (fun _ hk => hk.2) (.slice Ao66 t642.length co66)) (fun _ hk => hk.2) (.slice Ao67 t645.length co67)) (fun _ hk => hk.2) (.slice Ao68 t648.length co68)) (fun _ hk => hk.2) (.string t651)) (fun _ hk => hk.1.2)⟩
       have n2_ : Aside0 (Kd.R k65 65 (((((((w61.setCell ⟨gb653, 0, none⟩ (.int .i64 t639)).setCell ⟨gb653, 1, none⟩ (.int .i64 t640)).setCell ⟨gb653, 2, none⟩ (.int .i64 t641)).setCell ⟨gb653, 3, none⟩ (.slice Ao66 t642.length co66)).setCell ⟨gb653, 4, none⟩ (.slice Ao67 t645.length co67)).setCell ⟨gb653, 5, none⟩ (.slice Ao68 t648.length co68)).setCell ⟨gb653, 6, none⟩ (.string t651)) w.heap.size (fun k_ => some k_ ≠ (.slice Ao67 t645.length co67 : Value).ownBlock) (.slice Ao57 t631.length co57) t631) := ⟨by (with_reducible repeat (first | apply Kd.R_alloc | apply Kd.R_drewN | apply Kd.R_drew)); exact Kd.R_mono (Kd.R_far (p := ⟨gb653, 6, none⟩) (Kd.R_far (p := ⟨gb653, 5, none⟩) (Kd.R_far (p := ⟨gb653, 4, none⟩) (Kd.R_far (p := ⟨gb653, 3, none⟩) (Kd.R_far (p := ⟨gb653, 2, none⟩) (Kd.R_far (p := ⟨gb653, 1, none⟩) (Kd.R_far (p := ⟨gb653, 0, none⟩) (Kd.R_types HO633.out BK653.out (by decide)) (fun _ hk => hk.2) (.int .i64 t639)) (fun _ hk => hk.2) (.int .i64 t640)) (fun _ hk => hk.2) (.int .i64 t641)) (fun _ hk => hk.2) (.slice Ao66 t642.length co66)) (fun _ hk => hk.2) (.slice Ao67 t645.length co67)) (fun _ hk => hk.2) (.slice Ao68 t648.length co68)) (fun _ hk => hk.2) (.string t651)) (fun _ hk => hk.1.2)⟩
       have n3_ : Aside0 (Kd.R k71 71 (((((((w61.setCell ⟨gb653, 0, none⟩ (.int .i64 t639)).setCell ⟨gb653, 1, none⟩ (.int .i64 t640)).setCell ⟨gb653, 2, none⟩ (.int .i64 t641)).setCell ⟨gb653, 3, none⟩ (.slice Ao66 t642.length co66)).setCell ⟨gb653, 4, none⟩ (.slice Ao67 t645.length co67)).setCell ⟨gb653, 5, none⟩ (.slice Ao68 t648.length co68)).setCell ⟨gb653, 6, none⟩ (.string t651)) w.heap.size (fun k_ => some k_ ≠ (.slice Ao68 t648.length co68 : Value).ownBlock) (.slice Ao58 t634.length co58) t634) := ⟨by (with_reducible repeat (first | apply Kd.R_alloc | apply Kd.R_drewN | apply Kd.R_drew)); exact Kd.R_mono (Kd.R_far (p := ⟨gb653, 6, none⟩) (Kd.R_far (p := ⟨gb653, 5, none⟩) (Kd.R_far (p := ⟨gb653, 4, none⟩) (Kd.R_far (p := ⟨gb653, 3, none⟩) (Kd.R_far (p := ⟨gb653, 2, none⟩) (Kd.R_far (p := ⟨gb653, 1, none⟩) (Kd.R_far (p := ⟨gb653, 0, none⟩) (Kd.R_types HO636.out BK653.out (by decide)) (fun _ hk => hk.2) (.int .i64 t639)) (fun _ hk => hk.2) (.int .i64 t640)) (fun _ hk => hk.2) (.int .i64 t641)) (fun _ hk => hk.2) (.slice Ao66 t642.length co66)) (fun _ hk => hk.2) (.slice Ao67 t645.length co67)) (fun _ hk => hk.2) (.slice Ao68 t648.length co68)) (fun _ hk => hk.2) (.string t651)) (fun _ hk => hk.1.2)⟩
       have n4_ : Aside0 (Kd.R (Kd.int .u8) 5 (((((((w61.setCell ⟨gb653, 0, none⟩ (.int .i64 t639)).setCell ⟨gb653, 1, none⟩ (.int .i64 t640)).setCell ⟨gb653, 2, none⟩ (.int .i64 t641)).setCell ⟨gb653, 3, none⟩ (.slice Ao66 t642.length co66)).setCell ⟨gb653, 4, none⟩ (.slice Ao67 t645.length co67)).setCell ⟨gb653, 5, none⟩ (.slice Ao68 t648.length co68)).setCell ⟨gb653, 6, none⟩ (.string t651)) w.heap.size (fun k_ => some k_ ≠ (.slice Ao56 t628.length co56 : Value).ownBlock) (.slice Ao66 t642.length co66) t642) := ⟨by (with_reducible repeat (first | apply Kd.R_alloc | apply Kd.R_drewN | apply Kd.R_drew)); exact Kd.R_mono (Kd.R_far (p := ⟨gb653, 6, none⟩) (Kd.R_far (p := ⟨gb653, 5, none⟩) (Kd.R_far (p := ⟨gb653, 4, none⟩) (Kd.R_far (p := ⟨gb653, 3, none⟩) (Kd.R_far (p := ⟨gb653, 2, none⟩) (Kd.R_far (p := ⟨gb653, 1, none⟩) (Kd.R_far (p := ⟨gb653, 0, none⟩) (Kd.R_types HO644.out BK653.out (by decide)) (fun _ hk => hk.2) (.int .i64 t639)) (fun _ hk => hk.2) (.int .i64 t640)) (fun _ hk => hk.2) (.int .i64 t641)) (fun _ hk => hk.2) (.slice Ao66 t642.length co66)) (fun _ hk => hk.2) (.slice Ao67 t645.length co67)) (fun _ hk => hk.2) (.slice Ao68 t648.length co68)) (fun _ hk => hk.2) (.string t651)) (fun _ hk => hk.1.2)⟩
       have n5_ : Aside0 (Kd.R k65 65 (((((((w61.setCell ⟨gb653, 0, none⟩ (.int .i64 t639)).setCell ⟨gb653, 1, none⟩ (.int .i64 t640)).setCell ⟨gb653, 2, none⟩ (.int .i64 t641)).setCell ⟨gb653, 3, none⟩ (.slice Ao66 t642.length co66)).setCell ⟨gb653, 4, none⟩ (.slice Ao67 t645.length co67)).setCell ⟨gb653, 5, none⟩ (.slice Ao68 t648.length co68)).setCell ⟨gb653, 6, none⟩ (.string t651)) w.heap.size (fun k_ => some k_ ≠ (.slice Ao57 t631.length co57 : Value).ownBlock) (.slice Ao67 t645.length co67) t645) := ⟨by (with_reducible repeat (first | apply Kd.R_alloc | apply Kd.R_drewN | apply Kd.R_drew)); exact Kd.R_mono (Kd.R_far (p := ⟨gb653, 6, none⟩) (Kd.R_far (p := ⟨gb653, 5, none⟩) (Kd.R_far (p := ⟨gb653, 4, none⟩) (Kd.R_far (p := ⟨gb653, 3, none⟩) (Kd.R_far (p := ⟨gb653, 2, none⟩) (Kd.R_far (p := ⟨gb653, 1, none⟩) (Kd.R_far (p := ⟨gb653, 0, none⟩) (Kd.R_types HO647.out BK653.out (by decide)) (fun _ hk => hk.2) (.int .i64 t639)) (fun _ hk => hk.2) (.int .i64 t640)) (fun _ hk => hk.2) (.int .i64 t641)) (fun _ hk => hk.2) (.slice Ao66 t642.length co66)) (fun _ hk => hk.2) (.slice Ao67 t645.length co67)) (fun _ hk => hk.2) (.slice Ao68 t648.length co68)) (fun _ hk => hk.2) (.string t651)) (fun _ hk => hk.1.2)⟩
       have n6_ : Aside0 (Kd.R k71 71 (((((((w61.setCell ⟨gb653, 0, none⟩ (.int .i64 t639)).setCell ⟨gb653, 1, none⟩ (.int .i64 t640)).setCell ⟨gb653, 2, none⟩ (.int .i64 t641)).setCell ⟨gb653, 3, none⟩ (.slice Ao66 t642.length co66)).setCell ⟨gb653, 4, none⟩ (.slice Ao67 t645.length co67)).setCell ⟨gb653, 5, none⟩ (.slice Ao68 t648.length co68)).setCell ⟨gb653, 6, none⟩ (.string t651)) w.heap.size (fun k_ => some k_ ≠ (.slice Ao58 t634.length co58 : Value).ownBlock) (.slice Ao68 t648.length co68) t648) := ⟨by (with_reducible repeat (first | apply Kd.R_alloc | apply Kd.R_drewN | apply Kd.R_drew)); exact Kd.R_mono (Kd.R_far (p := ⟨gb653, 6, none⟩) (Kd.R_far (p := ⟨gb653, 5, none⟩) (Kd.R_far (p := ⟨gb653, 4, none⟩) (Kd.R_far (p := ⟨gb653, 3, none⟩) (Kd.R_far (p := ⟨gb653, 2, none⟩) (Kd.R_far (p := ⟨gb653, 1, none⟩) (Kd.R_far (p := ⟨gb653, 0, none⟩) (Kd.R_types HO650.out BK653.out (by decide)) (fun _ hk => hk.2) (.int .i64 t639)) (fun _ hk => hk.2) (.int .i64 t640)) (fun _ hk => hk.2) (.int .i64 t641)) (fun _ hk => hk.2) (.slice Ao66 t642.length co66)) (fun _ hk => hk.2) (.slice Ao67 t645.length co67)) (fun _ hk => hk.2) (.slice Ao68 t648.length co68)) (fun _ hk => hk.2) (.string t651)) (fun _ hk => hk.1.2)⟩
       have n7_ : Aside0 ((((((((w61.setCell ⟨gb653, 0, none⟩ (.int .i64 t639)).setCell ⟨gb653, 1, none⟩ (.int .i64 t640)).setCell ⟨gb653, 2, none⟩ (.int .i64 t641)).setCell ⟨gb653, 3, none⟩ (.slice Ao66 t642.length co66)).setCell ⟨gb653, 4, none⟩ (.slice Ao67 t645.length co67)).setCell ⟨gb653, 5, none⟩ (.slice Ao68 t648.length co68)).setCell ⟨gb653, 6, none⟩ (.string t651)).heap[gb615]? = some (.cells #[.slice Ao10 t617.length co10, .int .i64 t620] 26 (0, 0))) := ⟨oF BK615⟩
       have n8_ : Aside0 ((((((((w61.setCell ⟨gb653, 0, none⟩ (.int .i64 t639)).setCell ⟨gb653, 1, none⟩ (.int .i64 t640)).setCell ⟨gb653, 2, none⟩ (.int .i64 t641)).setCell ⟨gb653, 3, none⟩ (.slice Ao66 t642.length co66)).setCell ⟨gb653, 4, none⟩ (.slice Ao67 t645.length co67)).setCell ⟨gb653, 5, none⟩ (.slice Ao68 t648.length co68)).setCell ⟨gb653, 6, none⟩ (.string t651)).heap[gb616]? = some (.cells #[.slice none 0 0, .int .i64 0] 26 (0, 0))) := ⟨oF BK616⟩
       have n9_ : Aside0 ((((((((w61.setCell ⟨gb653, 0, none⟩ (.int .i64 t639)).setCell ⟨gb653, 1, none⟩ (.int .i64 t640)).setCell ⟨gb653, 2, none⟩ (.int .i64 t641)).setCell ⟨gb653, 3, none⟩ (.slice Ao66 t642.length co66)).setCell ⟨gb653, 4, none⟩ (.slice Ao67 t645.length co67)).setCell ⟨gb653, 5, none⟩ (.slice Ao68 t648.length co68)).setCell ⟨gb653, 6, none⟩ (.string t651)).heap[gb638]? = some (.cells #[.int .i64 t625, .int .i64 t626, .int .i64 t627, .slice Ao56 t628.length co56, .slice Ao57 t631.length co57, .slice Ao58 t634.length co58] 51 (0, 0))) := ⟨oF BK638⟩
       have n10_ : Aside0 ((((((((w61.setCell ⟨gb653, 0, none⟩ (.int .i64 t639)).setCell ⟨gb653, 1, none⟩ (.int .i64 t640)).setCell ⟨gb653, 2, none⟩ (.int .i64 t641)).setCell ⟨gb653, 3, none⟩ (.slice Ao66 t642.length co66)).setCell ⟨gb653, 4, none⟩ (.slice Ao67 t645.length co67)).setCell ⟨gb653, 5, none⟩ (.slice Ao68 t648.length co68)).setCell ⟨gb653, 6, none⟩ (.string t651)).heap[gb653]? = some (.cells #[.int .i64 t639, .int .i64 t640, .int .i64 t641, .slice Ao66 t642.length co66, .slice Ao67 t645.length co67, .slice Ao68 t648.length co68, .string t651] 84 (0, 0))) := ⟨oP BK653⟩
       have n11_ : Aside0 (Below w.heap.size w (((((((w61.setCell ⟨gb653, 0, none⟩ (.int .i64 t639)).setCell ⟨gb653, 1, none⟩ (.int .i64 t640)).setCell ⟨gb653, 2, none⟩ (.int .i64 t641)).setCell ⟨gb653, 3, none⟩ (.slice Ao66 t642.length co66)).setCell ⟨gb653, 4, none⟩ (.slice Ao67 t645.length co67)).setCell ⟨gb653, 5, none⟩ (.slice Ao68 t648.length co68)).setCell ⟨gb653, 6, none⟩ (.string t651))) := ⟨oB⟩
       (try clear HO_616000)
       (try clear HO630)
       (try clear HO633)
       (try clear HO636)
       (try clear HO644)
       (try clear HO647)
       (try clear HO650)
       (try clear BK615)
       (try clear BK616)
       (try clear BK638)
       (try clear BK653)
       (try clear HB)
       generalize (((((((w61.setCell ⟨gb653, 0, none⟩ (.int .i64 t639)).setCell ⟨gb653, 1, none⟩ (.int .i64 t640)).setCell ⟨gb653, 2, none⟩ (.int .i64 t641)).setCell ⟨gb653, 3, none⟩ (.slice Ao66 t642.length co66)).setCell ⟨gb653, 4, none⟩ (.slice Ao67 t645.length co67)).setCell ⟨gb653, 5, none⟩ (.slice Ao68 t648.length co68)).setCell ⟨gb653, 6, none⟩ (.string t651)) = w69 at n0_ n1_ n2_ n3_ n4_ n5_ n6_ n7_ n8_ n9_ n10_ n11_ ⊢
       have HO_616000 := n0_
       have HO630 := n1_
       have HO633 := n2_
       have HO636 := n3_
       have HO644 := n4_
       have HO647 := n5_
       have HO650 := n6_
       have BK615 := n7_
       have BK616 := n8_
       have BK638 := n9_
       have BK653 := n10_
       have HB := n11_
       clear n0_ n1_ n2_ n3_ n4_ n5_ n6_ n7_ n8_ n9_ n10_ n11_
       replace HO_616000 := Aside0.mk (Kd.S_drew HO_616000.out)
       replace HO630 := Aside0.mk (Kd.R_drew HO630.out)
       replace HO633 := Aside0.mk (Kd.R_drew HO633.out)
       replace HO636 := Aside0.mk (Kd.R_drew HO636.out)
       replace HO644 := Aside0.mk (Kd.R_drew HO644.out)
       replace HO647 := Aside0.mk (Kd.R_drew HO647.out)
       replace HO650 := Aside0.mk (Kd.R_drew HO650.out)
       replace BK615 := Aside0.mk (blk_drew BK615.out)
       replace BK616 := Aside0.mk (blk_drew BK616.out)
       replace BK638 := Aside0.mk (blk_drew BK638.out)
       replace BK653 := Aside0.mk (blk_drew BK653.out)
       replace HB := Aside0.mk (below_drew1 HB.out)
       refine st_ 8 (fun w' => w'.cell? ⟨gb653, 0, none⟩ = some (.int .i64 t639) ∧ w'.cell? ⟨gb653, 1, none⟩ = some (.int .i64 t640) ∧ w'.cell? ⟨gb653, 2, none⟩ = some (.int .i64 t641) ∧ w'.cell? ⟨gb653, 3, none⟩ = some (.slice Ao66 t642.length co66) ∧ w'.cell? ⟨gb653, 4, none⟩ = some (.slice Ao67 t645.length co67) ∧ w'.cell? ⟨gb653, 5, none⟩ = some (.slice Ao68 t648.length co68) ∧ w'.cell? ⟨gb653, 6, none⟩ = some (.string t651) ∧ w'.cell? ⟨gb615, 0, none⟩ = some (.slice Ao10 t617.length co10) ∧ w'.cell? ⟨gb615, 1, none⟩ = some (.int .i64 t620) ∧ w'.cell? ⟨gb638, 0, none⟩ = some (.int .i64 t625) ∧ w'.cell? ⟨gb638, 1, none⟩ = some (.int .i64 t626) ∧ w'.cell? ⟨gb638, 2, none⟩ = some (.int .i64 t627) ∧ w'.cell? ⟨gb638, 3, none⟩ = some (.slice Ao56 t628.length co56) ∧ w'.cell? ⟨gb638, 4, none⟩ = some (.slice Ao57 t631.length co57) ∧ w'.cell? ⟨gb638, 5, none⟩ = some (.slice Ao58 t634.length co58)) impl_RemoveDir.tab12 impl_RemoveDir.bits12 oH (fun hHeld HT_ HW_ => ?_)
       generalize w69.drew = w70 at HO_616000 HO630 HO633 HO636 HO644 HO647 HO650 BK615 BK616 BK638 BK653 HB hHeld ⊢
       refine pu_ 3 53 HT_ ?_
       refine ta_ 0 50 HT_ HW_ hHeld ?_
       refine ta_ 1 51 HT_ HW_ hHeld ?_
       refine ta_ 4 54 HT_ HW_ hHeld ?_
       refine on_ 2 52 HT_ (fun K hK => ?_)
       refine gr_ 52 Tryz.func60 (impl_spot_leave.calls kj3 t639 t640 t641 _ _ t642 _ _ t645 _ _ t648 t651 _ _ t617 t620 t654 t657 _ (kO HO644) (ko HO644) (kO HO647) (ko HO647) (kO HO650) (ko HO650) (rcS0 HO_616000) (rnS HO_616000) A47.out) ?_
       rintro e w71 ⟨v655, rfl, ho0, hb⟩
       refine ⟨_, rfl, ?_⟩
       have HO656 := Aside0.mk (Kd.S_lower (Kd.S_newB (Kd.S_new' (Kd.S_new' (Kd.S_new' (Kd.S_new' (Kd.S_new' (Kd.S_new' (Kd.S_new' ho0 (ltS0 HO_616000)) (kl_ HO630)) (kl_ HO633)) (kl_ HO636)) (kl_ HO644)) (kl_ HO647)) (kl_ HO650)) (g := gb638) (o := .cells #[.int .i64 t625, .int .i64 t626, .int .i64 t627, .slice Ao56 t628.length co56, .slice Ao57 t631.length co57, .slice Ao58 t634.length co58] 51 (0, 0)) (oF BK638)) (below_size oB))
       replace HO_616000 := elS0 HO_616000 (Kd.S_base ho0) hb
       replace HO630 := kr_ HO630 hb
       replace HO633 := kr_ HO633 hb
       replace HO636 := kr_ HO636 hb
       replace HO644 := kr_ HO644 hb
       replace HO647 := kr_ HO647 hb
       replace HO650 := kr_ HO650 hb
       replace BK615 := kb_ BK615 hb
       replace BK616 := kb_ BK616 hb
       replace BK638 := kb_ BK638 hb
       replace BK653 := kb_ BK653 hb
       replace HB := Aside0.mk (below_step oB hb)
       obtain ⟨Ao72, co72, eo72⟩ := Kd.S_slice HO656.out
       (first | subst eo72 | (injection eo72 with f1_ f2_ f3_; have f4_ := f1_.symm; have f5_ := f3_.symm; clear f1_ f2_ f3_; subst f4_; subst f5_))
       refine hk_ hK 52 oH (fun hHeld => ?_)
       clear hK K
       refine on_ 5 55 HT_ (fun K hK => ?_)
       refine gr_ 55 Tryz.func61 (impl_DropInode.calls kj3 _ _ t654 t657 t625 t658 t661 _ (rcS0 HO656) (rnS HO656) A48.out) ?_
       rintro e w73 ⟨v659, rfl, ho0, hb⟩
       refine ⟨_, rfl, ?_⟩
       have HO660 := Aside0.mk (Kd.S_lower (Kd.S_newB (Kd.S_new' (Kd.S_new' (Kd.S_new' (Kd.S_new' (Kd.S_new' (Kd.S_new' (Kd.S_new' (Kd.S_new' ho0 (ltS0 HO_616000)) (kl_ HO630)) (kl_ HO633)) (kl_ HO636)) (kl_ HO644)) (kl_ HO647)) (kl_ HO650)) (ltS0 HO656)) (g := gb638) (o := .cells #[.int .i64 t625, .int .i64 t626, .int .i64 t627, .slice Ao56 t628.length co56, .slice Ao57 t631.length co57, .slice Ao58 t634.length co58] 51 (0, 0)) (oF BK638)) (below_size oB))
       replace HO_616000 := elS0 HO_616000 (Kd.S_base ho0) hb
       replace HO630 := kr_ HO630 hb
       replace HO633 := kr_ HO633 hb
       replace HO636 := kr_ HO636 hb
       replace HO644 := kr_ HO644 hb
       replace HO647 := kr_ HO647 hb
       replace HO650 := kr_ HO650 hb
       replace HO656 := elS0 HO656 (Kd.S_base ho0) hb
       replace BK615 := kb_ BK615 hb
       replace BK616 := kb_ BK616 hb
       replace BK638 := kb_ BK638 hb
       replace BK653 := kb_ BK653 hb
       replace HB := Aside0.mk (below_step oB hb)
       obtain ⟨Ao74, co74, eo74⟩ := Kd.S_slice HO660.out
       (first | subst eo74 | (injection eo74 with f1_ f2_ f3_; have f4_ := f1_.symm; have f5_ := f3_.symm; clear f1_ f2_ f3_; subst f4_; subst f5_))
       refine hk_ hK 55 oH (fun hHeld => ?_)
       clear hK K
       refine one_ (i := 6) (N := none) (lb 8 127) rfl rfl (one_of HT_.out (by kernel_rfl)) (by decide) (fun K hK => ?_)
       have hs75 : w73.cell? ⟨gb616, 0, none⟩ = some (.slice none 0 0) := (blk_cell BK616.out 0).trans rfl
       have hfs75 := blk_frozen BK616.out 0
       have hns75_0 := NB615_616.out
       have hns75_2 := NB638_616.out
       have hns75_3 := NB653_616.out
       have hms75_0 := NB616_615.out
       have hms75_2 := NB616_638.out
       have hms75_3 := NB616_653.out
       have hs76 : w73.cell? ⟨gb616, 1, none⟩ = some (.int .i64 0) := (blk_cell BK616.out 1).trans rfl
       have hfs76 := blk_frozen BK616.out 1
       have hns76_0 := NB615_616.out
       have hns76_2 := NB638_616.out
       have hns76_3 := NB653_616.out
       have hms76_0 := NB616_615.out
       have hms76_2 := NB616_638.out
       have hms76_3 := NB616_653.out
       refine skip_ (w1 := ?_) (by rfl) rfl ?_ ?_
       rotate_left
       ·go_simp
        rfl
       refine hK.out _ _ ⟨((cell_far (p := ⟨gb616, _, none⟩) NB653_616.out _).trans (((cell_far (p := ⟨gb616, _, none⟩) NB653_616.out _).trans (hHeld.1)))), ((cell_far (p := ⟨gb616, _, none⟩) NB653_616.out _).trans (((cell_far (p := ⟨gb616, _, none⟩) NB653_616.out _).trans (hHeld.2.1)))), ((cell_far (p := ⟨gb616, _, none⟩) NB653_616.out _).trans (((cell_far (p := ⟨gb616, _, none⟩) NB653_616.out _).trans (hHeld.2.2.1)))), ((cell_far (p := ⟨gb616, _, none⟩) NB653_616.out _).trans (((cell_far (p := ⟨gb616, _, none⟩) NB653_616.out _).trans (hHeld.2.2.2.1)))), ((cell_far (p := ⟨gb616, _, none⟩) NB653_616.out _).trans (((cell_far (p := ⟨gb616, _, none⟩) NB653_616.out _).trans (hHeld.2.2.2.2.1)))), ((cell_far (p := ⟨gb616, _, none⟩) NB653_616.out _).trans (((cell_far (p := ⟨gb616, _, none⟩) NB653_616.out _).trans (hHeld.2.2.2.2.2.1)))), ((cell_far (p := ⟨gb616, _, none⟩) NB653_616.out _).trans (((cell_far (p := ⟨gb616, _, none⟩) NB653_616.out _).trans (hHeld.2.2.2.2.2.2.1)))), ((cell_far (p := ⟨gb616, _, none⟩) NB615_616.out _).trans (((cell_far (p := ⟨gb616, _, none⟩) NB615_616.out _).trans (hHeld.2.2.2.2.2.2.2.1)))), ((cell_far (p := ⟨gb616, _, none⟩) NB615_616.out _).trans (((cell_far (p := ⟨gb616, _, none⟩) NB615_616.out _).trans (hHeld.2.2.2.2.2.2.2.2.1)))), ((cell_far (p := ⟨gb616, _, none⟩) NB638_616.out _).trans (((cell_far (p := ⟨gb616, _, none⟩) NB638_616.out _).trans (hHeld.2.2.2.2.2.2.2.2.2.1)))), ((cell_far (p := ⟨gb616, _, none⟩) NB638_616.out _).trans (((cell_far (p := ⟨gb616, _, none⟩) NB638_616.out _).trans (hHeld.2.2.2.2.2.2.2.2.2.2.1)))), ((cell_far (p := ⟨gb616, _, none⟩) NB638_616.out _).trans (((cell_far (p := ⟨gb616, _, none⟩) NB638_616.out _).trans (hHeld.2.2.2.2.2.2.2.2.2.2.2.1)))), ((cell_far (p := ⟨gb616, _, none⟩) NB638_616.out _).trans (((cell_far (p := ⟨gb616, _, none⟩) NB638_616.out _).trans (hHeld.2.2.2.2.2.2.2.2.2.2.2.2.1)))), ((cell_far (p := ⟨gb616, _, none⟩) NB638_616.out _).trans (((cell_far (p := ⟨gb616, _, none⟩) NB638_616.out _).trans (hHeld.2.2.2.2.2.2.2.2.2.2.2.2.2.1)))), ((cell_far (p := ⟨gb616, _, none⟩) NB638_616.out _).trans (((cell_far (p := ⟨gb616, _, none⟩) NB638_616.out _).trans (hHeld.2.2.2.2.2.2.2.2.2.2.2.2.2.2))))⟩ (fun hHeld => ?_)
       clear hK K
       refine pu_ 7 5 HT_ ?_
       refine dn_ HT_ ?_
       try go_wp2
       refine bodyPost_ret (results_ct rfl _ _ gb616 26 #[.slice Ao74 t658.length co74, .int .i64 t661] (0, 0) _ rfl (oP BK616) Tryz.underlying26 rfl (by kernel_rfl)) rfl ?_
       exact ⟨_, oE, by (with_reducible repeat (first | apply Kd.S_alloc | apply Kd.S_drewN | apply Kd.S_drew)); exact Kd.S_mono (Kd.S_far (p := ⟨gb616, 1, none⟩) (Kd.S_far (p := ⟨gb616, 0, none⟩) (Kd.S_types HO660.out BK616.out (by decide)) (fun _ hk => hk.2) (.slice Ao74 t658.length co74)) (fun _ hk => hk.2) (.int .i64 t661)) (fun _ hk => trivial), oB⟩
     ·rw [if_neg c32] at H
      have c32b0 : (t626 == 2) = false := beq_eq_false_iff_ne.mpr c32
      have c32b1 : (t626 != 2) = true := bne_iff_ne.mpr c32
      simp only [Option.some.injEq, Prod.mk.injEq] at H
      obtain ⟨rfl, rfl, rfl⟩ := H
      have hnb77 := NB615_616.out
      have hnc77 := NB616_615.out
      obtain ⟨⟨_, _⟩, _, _⟩ := z2 BK615
      go_wp2_with (first | ((with_reducible refine gate_callee (f := 28) rfl ?_); refine gl_ 25 Tryz.func28 (impl_Stat.calls kj3 _ _ t617 t620 a1 t625 t626 t627 t628 t631 t634 t637 _ (rcS0 HO_616000) (rnS HO_616000) A30.out) ?_; rintro e w79 ⟨v629, v632, v635, rfl, ho0, ho1, ho2, hb⟩; refine ⟨_, rfl, ?_⟩; have HO630 := Aside0.mk (Kd.R_lower ho0 (below_size oB)); have HO633 := Aside0.mk (Kd.R_lower ho1 (below_size oB)); have HO636 := Aside0.mk (Kd.R_lower ho2 (below_size oB)); replace HO_616000 := tdS3 (olS0 HO_616000 hb) (Kd.R_base ho0) (Kd.R_base ho1) (Kd.R_base ho2); replace BK615 := kb_ BK615 hb; replace BK616 := kb_ BK616 hb; replace HB := Aside0.mk (below_step oB hb); (try clear ho1); (try clear ho2)) | ((with_reducible refine gate_dst (N := 6) rfl ?_); refine bx_ 6 #[.int .i64 0, .int .i64 0, .int .i64 0, .slice none 0 0, .slice none 0 0, .slice none 0 0] 51 ?_; intro gb638 hg w80 hbox hb; have BK638 := Aside0.mk (hbox); have GW638 := gs_ hg; have NB615_638 := nl_ hg BK615; have NB638_615 := nr_ hg BK615; have NB616_638 := nl_ hg BK616; have NB638_616 := nr_ hg BK616; replace HO_616000 := Aside0.mk (Kd.S_below (Kd.S_elderB (nS0 HO_616000) gb638 (Nat.le_of_eq hg.symm)) hb); replace HO630 := kr_ HO630 hb; replace HO633 := kr_ HO633 hb; replace HO636 := kr_ HO636 hb; replace BK615 := kb_ BK615 hb; replace BK616 := kb_ BK616 hb; replace HB := Aside0.mk (below_step oB hb); clear hb hbox hg; have hnb81 := NB638_615.out; have hnc81 := NB615_638.out; have hnb82 := NB638_616.out; have hnc82 := NB616_638.out; obtain ⟨⟨_, _, _, _, _, _⟩, _, _, _, _, _, _⟩ := z6 BK638; obtain ⟨Ao84, co84, eo84⟩ := Kd.R_slice HO630.out; subst eo84; obtain ⟨Ao85, co85, eo85⟩ := Kd.R_slice HO633.out; subst eo85; obtain ⟨Ao86, co86, eo86⟩ := Kd.R_slice HO636.out; subst eo86; obtain ⟨⟨_, _⟩, _, _⟩ := z2 BK615; obtain ⟨⟨_, _⟩, _, _⟩ := z2 BK616))
      refine bodyPost_ret (results_ct rfl _ _ gb616 26 #[.slice Ao10 t617.length co10, .int .i64 t620] (0, 0) _ rfl (oP BK616) Tryz.underlying26 rfl (by kernel_rfl)) rfl ?_
      exact ⟨_, oE, by (with_reducible repeat (first | apply Kd.S_alloc | apply Kd.S_drewN | apply Kd.S_drew)); exact Kd.S_mono (Kd.S_far (p := ⟨gb616, 1, none⟩) (Kd.S_far (p := ⟨gb616, 0, none⟩) (Kd.S_far (p := ⟨gb638, 5, none⟩) (Kd.S_far (p := ⟨gb638, 4, none⟩) (Kd.S_far (p := ⟨gb638, 3, none⟩) (Kd.S_far (p := ⟨gb638, 2, none⟩) (Kd.S_far (p := ⟨gb638, 1, none⟩) (Kd.S_far (p := ⟨gb638, 0, none⟩) (Kd.S_types (Kd.S_mono HO_616000.out (fun k_ hk => (⟨hk, hk.2⟩ : _ ∧ k_ ≠ gb638))) BK616.out (by decide)) (fun _ hk => hk.1.2) (.int .i64 t625)) (fun _ hk => hk.1.2) (.int .i64 t626)) (fun _ hk => hk.1.2) (.int .i64 t627)) (fun _ hk => hk.1.2) (.slice Ao84 t628.length co84)) (fun _ hk => hk.1.2) (.slice Ao85 t631.length co85)) (fun _ hk => hk.1.2) (.slice Ao86 t634.length co86)) (fun _ hk => hk.2) (.slice Ao10 t617.length co10)) (fun _ hk => hk.2) (.int .i64 t620)) (fun _ hk => trivial), oB⟩
    ·rw [if_neg c31] at H
     have c31b0 : (t637 == 0) = false := beq_eq_false_iff_ne.mpr c31
     have c31b1 : (t637 != 0) = true := bne_iff_ne.mpr c31
     simp only [Option.some.injEq, Prod.mk.injEq] at H
     obtain ⟨rfl, rfl, rfl⟩ := H
     have hnb89 := NB615_616.out
     have hnc89 := NB616_615.out
     obtain ⟨⟨_, _⟩, _, _⟩ := z2 BK615
     go_wp2_with (first | ((with_reducible refine gate_callee (f := 28) rfl ?_); refine gl_ 25 Tryz.func28 (impl_Stat.calls kj3 _ _ t617 t620 a1 t625 t626 t627 t628 t631 t634 t637 _ (rcS0 HO_616000) (rnS HO_616000) A30.out) ?_; rintro e w91 ⟨v629, v632, v635, rfl, ho0, ho1, ho2, hb⟩; refine ⟨_, rfl, ?_⟩; have HO630 := Aside0.mk (Kd.R_lower ho0 (below_size oB)); have HO633 := Aside0.mk (Kd.R_lower ho1 (below_size oB)); have HO636 := Aside0.mk (Kd.R_lower ho2 (below_size oB)); replace HO_616000 := tdS3 (olS0 HO_616000 hb) (Kd.R_base ho0) (Kd.R_base ho1) (Kd.R_base ho2); replace BK615 := kb_ BK615 hb; replace BK616 := kb_ BK616 hb; replace HB := Aside0.mk (below_step oB hb); (try clear ho1); (try clear ho2)) | ((with_reducible refine gate_dst (N := 6) rfl ?_); refine bx_ 6 #[.int .i64 0, .int .i64 0, .int .i64 0, .slice none 0 0, .slice none 0 0, .slice none 0 0] 51 ?_; intro gb638 hg w92 hbox hb; have BK638 := Aside0.mk (hbox); have GW638 := gs_ hg; have NB615_638 := nl_ hg BK615; have NB638_615 := nr_ hg BK615; have NB616_638 := nl_ hg BK616; have NB638_616 := nr_ hg BK616; replace HO_616000 := Aside0.mk (Kd.S_below (Kd.S_elderB (nS0 HO_616000) gb638 (Nat.le_of_eq hg.symm)) hb); replace HO630 := kr_ HO630 hb; replace HO633 := kr_ HO633 hb; replace HO636 := kr_ HO636 hb; replace BK615 := kb_ BK615 hb; replace BK616 := kb_ BK616 hb; replace HB := Aside0.mk (below_step oB hb); clear hb hbox hg; have hnb93 := NB638_615.out; have hnc93 := NB615_638.out; have hnb94 := NB638_616.out; have hnc94 := NB616_638.out; obtain ⟨⟨_, _, _, _, _, _⟩, _, _, _, _, _, _⟩ := z6 BK638; obtain ⟨Ao96, co96, eo96⟩ := Kd.R_slice HO630.out; subst eo96; obtain ⟨Ao97, co97, eo97⟩ := Kd.R_slice HO633.out; subst eo97; obtain ⟨Ao98, co98, eo98⟩ := Kd.R_slice HO636.out; subst eo98; obtain ⟨⟨_, _⟩, _, _⟩ := z2 BK615; obtain ⟨⟨_, _⟩, _, _⟩ := z2 BK616))
     refine bodyPost_ret (results_ct rfl _ _ gb616 26 #[.slice Ao10 t617.length co10, .int .i64 t620] (0, 0) _ rfl (oP BK616) Tryz.underlying26 rfl (by kernel_rfl)) rfl ?_
     exact ⟨_, oE, by (with_reducible repeat (first | apply Kd.S_alloc | apply Kd.S_drewN | apply Kd.S_drew)); exact Kd.S_mono (Kd.S_far (p := ⟨gb616, 1, none⟩) (Kd.S_far (p := ⟨gb616, 0, none⟩) (Kd.S_far (p := ⟨gb638, 5, none⟩) (Kd.S_far (p := ⟨gb638, 4, none⟩) (Kd.S_far (p := ⟨gb638, 3, none⟩) (Kd.S_far (p := ⟨gb638, 2, none⟩) (Kd.S_far (p := ⟨gb638, 1, none⟩) (Kd.S_far (p := ⟨gb638, 0, none⟩) (Kd.S_types (Kd.S_mono HO_616000.out (fun k_ hk => (⟨hk, hk.2⟩ : _ ∧ k_ ≠ gb638))) BK616.out (by decide)) (fun _ hk => hk.1.2) (.int .i64 t625)) (fun _ hk => hk.1.2) (.int .i64 t626)) (fun _ hk => hk.1.2) (.int .i64 t627)) (fun _ hk => hk.1.2) (.slice Ao96 t628.length co96)) (fun _ hk => hk.1.2) (.slice Ao97 t631.length co97)) (fun _ hk => hk.1.2) (.slice Ao98 t634.length co98)) (fun _ hk => hk.2) (.slice Ao10 t617.length co10)) (fun _ hk => hk.2) (.int .i64 t620)) (fun _ hk => trivial), oB⟩

end Go.Proofs.YtkcfmbggdkkfeaaGreatDoor.P
