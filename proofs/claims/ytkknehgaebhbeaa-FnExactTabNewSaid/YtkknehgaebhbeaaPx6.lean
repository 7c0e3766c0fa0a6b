-- By this session's own program (wip/myprint.py) out of the translation; Lean checks it.
import Derived.Test.YtkknehgaebhbeaaPx0
import Derived.Test.YtkknehgaebhbeaaPx3
import Derived.Test.YtkknehgaebhbeaaPx4
import Derived.Test.YtkknehgaebhbeaaPx5
namespace Go.Proofs.Ytkknehgaebhbeaa.P
open Go.RowKit Go.Proofs.YtkknehgaebhbeaaW.PrintWords Go.Proofs.YtkknehgaebhbeaaW.PrintLast Go.Proofs.YtkknehgaebhbeaaW.PrintMore
attribute [local go_sem] max2_int min2_int max_two min_two max_three min_three max_four min_four   -- for this text's walks alone
set_option linter.unusedVariables false
set_option linter.unusedSimpArgs false

/-! ### laws_FnExactSameTab: function 9 -/
mutual
def laws_FnExactSameTab.j0 : Nat → Int → List (S39) → Int → List (S39) → Int → Option (Bool)
 | 0, _, _, _, _, _ => none
 | k + 1, x5, x224000, x224001, x225000, x225001 => (laws_szTab.f k x225000 x225001 x5).bind fun t226 => (if t226 < 0 then (some true) else (laws_FnExactSameTab.j1 k x224000 x224001 x225000 x225001))
def laws_FnExactSameTab.j1 : Nat → List (S39) → Int → List (S39) → Int → Option (Bool)
 | 0, _, _, _, _ => none
 | k + 1, x224000, x224001, x225000, x225001 => (laws_toTab.f k x224000 x224001).bind fun bt227 => ((laws_toTab.f k x225000 x225001).bind fun bt231 => ((spec_SameTab.f k bt227.1 bt227.2 bt231.1 bt231.2).bind fun t235 => ((laws_toTab.f k x224000 x224001).bind fun bt236 => ((laws_toTab.f k x225000 x225001).bind fun bt241 => ((impl_SameTab.f k bt236.1 bt236.2 bt241.1 bt241.2).bind fun t246 => (if (t246 != t235) = true then (some false) else (laws_FnExactSameTab.j2 k x224000 x224001 x225000 x225001 bt236.1 bt236.2 bt241.1 bt241.2)))))))
def laws_FnExactSameTab.j2 : Nat → List (S39) → Int → List (S39) → Int → List (S45) → Int → List (S45) → Int → Option (Bool)
 | 0, _, _, _, _, _, _, _, _ => none
 | k + 1, x224000, x224001, x225000, x225001, x241000, x241001, x246000, x246001 => (laws_toTab.f k x224000 x224001).bind fun bt247 => ((laws_eqTab.f k x241000 x241001 bt247.1 bt247.2).bind fun t251 => (if t251 = true then (laws_FnExactSameTab.j3 k x225000 x225001 x246000 x246001) else (some false)))
def laws_FnExactSameTab.j3 : Nat → List (S39) → Int → List (S45) → Int → Option (Bool)
 | 0, _, _, _, _ => none
 | k + 1, x225000, x225001, x246000, x246001 => (laws_toTab.f k x225000 x225001).bind fun bt252 => ((laws_eqTab.f k x246000 x246001 bt252.1 bt252.2).bind fun t256 => (if t256 = true then (some true) else (some false)))
end
def laws_FnExactSameTab.f (k : Nat) (l0_0 : List (S39)) (a0_1 : Int) (l1_0 : List (S39)) (a1_1 : Int) : Option (Bool) := (laws_szTab.f k l0_0 a0_1 1048576).bind fun t225 => (if t225 < 0 then (some true) else (laws_FnExactSameTab.j0 k t225 l0_0 a0_1 l1_0 a1_1))
set_option maxHeartbeats 8000000 in
set_option maxRecDepth 100000 in
theorem laws_FnExactSameTab.calls (k : Nat) (A0_0 : Option Addr) (c0_0 : Nat) (l0_0 : List (S39)) (a0_1 : Int) (A1_0 : Option Addr) (c1_0 : Nat) (l1_0 : List (S39)) (a1_1 : Int) (r : Bool) (w : World) (hr0_0 : Kd.C k39 w A0_0 l0_0.length l0_0) (hc0_0 : l0_0.length ≤ c0_0) (hr1_0 : Kd.C k39 w A1_0 l1_0.length l1_0) (hc1_0 : l1_0.length ≤ c1_0) (h : laws_FnExactSameTab.f k l0_0 a0_1 l1_0 a1_1 = some r) :
  Calls Try.prog 9 #[.agg #[.slice A0_0 l0_0.length c0_0, .int .i64 a0_1], .agg #[.slice A1_0 l1_0.length c1_0, .int .i64 a1_1]] w fun e w' => e = .returned (.bool r) ∧ Below w.heap.size w w' := by
 have hu50 := Try.underlying50
 have hu30 := Try.underlying30
 have HR0_0 := Aside0.mk hr0_0
 have HC0_0 := Aside0.mk hc0_0
 clear hr0_0 hc0_0
 have HR1_0 := Aside0.mk hr1_0
 have HC1_0 := Aside0.mk hc1_0
 clear hr1_0 hc1_0
 have HB := Aside0.mk (Below.refl w.heap.size w)
 unfold laws_FnExactSameTab.f at h
 have H := h
 clear h
 replace H := bA H
 obtain ⟨t225, A3, H⟩ := H
 try dsimp only at H
 have HC4 := Aside0.mk H
 clear H
 go_enter Try.func9, Try.ntmps9
 go_upto_if 14 with (first | ((with_reducible refine gate_dst (N := 2) rfl ?_); refine bx_ 2 #[.slice A0_0 l0_0.length c0_0, .int .i64 a0_1] 50 ?_; intro gb223 hg w5 hbox hb; have BK223 := Aside0.mk (hbox); have GW223 := gs_ hg; have GE223 := gs_ hg; replace HB := Aside0.mk (below_step oB hb); clear hb hbox hg) | ((with_reducible refine gate_dst (N := 3) rfl ?_); refine bx_ 3 #[.slice A1_0 l1_0.length c1_0, .int .i64 a1_1] 50 ?_; intro gb224 hg w6 hbox hb; have BK224 := Aside0.mk (hbox); have GW224 := gs_ hg; have GE224 := gs_ hg; have NB223_224 := nl_ hg BK223; have NB224_223 := nr_ hg BK223; replace BK223 := kb_ BK223 hb; replace HB := Aside0.mk (below_step oB hb); clear hb hbox hg; have hnb7 := NB223_224.out; have hnc7 := NB224_223.out; obtain ⟨⟨_, _⟩, _, _⟩ := z2 BK223) | ((with_reducible refine gate_callee (f := 33) rfl ?_); refine gl_ 12 Try.func33 (laws_szTab.calls k _ _ l0_0 a0_1 1048576 t225 _ (kC HR0_0) HC0_0.out A3.out) ?_; rintro e w9 ⟨rfl, hb⟩; refine ⟨_, rfl, ?_⟩; replace BK223 := kb_ BK223 hb; replace BK224 := kb_ BK224 hb; replace HB := Aside0.mk (below_step oB hb)))
 (try simp only [Act.put, List.setIfInBounds_toArray, List.set_cons_zero, List.set_cons_succ])
 go_cut [] (fun wc => ∃ (kq : Nat), Aside0 (laws_FnExactSameTab.j0 kq t225 l0_0 a0_1 l1_0 a1_1 = some r) ∧ Aside0 (kq ≤ k) ∧ Aside0 (wc.heap[gb223]? = some (.cells #[(.slice A0_0 l0_0.length c0_0), .int .i64 a0_1] 50 (0, 0))) ∧ Aside0 (wc.heap[gb224]? = some (.cells #[(.slice A1_0 l1_0.length c1_0), .int .i64 a1_1] 50 (0, 0))) ∧ Aside0 (Below w.heap.size w wc))
 case first =>
  have H := HC4.out
  clear HC4
  replace H := itD H
  rcases H with ⟨c10b0, H⟩ | ⟨c10b0, H⟩
  ·(first | rw [c10b0] | rw [c10b2] | (simp only [i64_w, i32_w]; rw [c10b0]) | skip)
   obtain rfl := Option.some.inj H
   go_wp2
   go_ret
   exact ⟨oE, oB⟩
  ·(first | rw [c10b0] | rw [c10b2] | (simp only [i64_w, i32_w]; rw [c10b0]) | skip)
   have H' := Aside0.mk H
   clear H
   go_wp2
   go_meet
   case rel => exact ⟨_, H', ⟨by first | omega | exact Nat.le_refl _⟩, ⟨oF BK223⟩, ⟨oF BK224⟩, ⟨oB⟩⟩
 case rest =>
  clear HC4
  obtain ⟨kq, HA, HJ3, BK223, BK224, HB⟩ := hcut
  cases kq with
  | zero => exact absurd HA.out (by simp [laws_FnExactSameTab.j0])
  | succ kj3 =>
   have H := HA.out
   clear HA
   simp only [laws_FnExactSameTab.j0] at H
   replace H := bA H
   obtain ⟨t226, A11, H⟩ := H
   try dsimp only at H
   have HC12 := Aside0.mk H
   clear H
   have hnb13 := NB224_223.out
   have hnc13 := NB223_224.out
   obtain ⟨⟨_, _⟩, _, _⟩ := z2 BK224
   go_upto_if 19 with (first | ((with_reducible refine gate_callee (f := 33) rfl ?_); refine gl_ 17 Try.func33 (laws_szTab.calls kj3 _ _ l1_0 a1_1 t225 t226 _ (kC HR1_0) HC1_0.out A11.out) ?_; rintro e w15 ⟨rfl, hb⟩; refine ⟨_, rfl, ?_⟩; replace BK223 := kb_ BK223 hb; replace BK224 := kb_ BK224 hb; replace HB := Aside0.mk (below_step oB hb)))
   (try simp only [Act.put, List.setIfInBounds_toArray, List.set_cons_zero, List.set_cons_succ])
   go_cut [] (fun wc => ∃ (kq : Nat), Aside0 (laws_FnExactSameTab.j1 kq l0_0 a0_1 l1_0 a1_1 = some r) ∧ Aside0 (kq ≤ kj3) ∧ Aside0 (wc.heap[gb223]? = some (.cells #[(.slice A0_0 l0_0.length c0_0), .int .i64 a0_1] 50 (0, 0))) ∧ Aside0 (wc.heap[gb224]? = some (.cells #[(.slice A1_0 l1_0.length c1_0), .int .i64 a1_1] 50 (0, 0))) ∧ Aside0 (Below w.heap.size w wc))
   case first =>
    have H := HC12.out
    clear HC12
    replace H := itD H
    rcases H with ⟨c16b0, H⟩ | ⟨c16b0, H⟩
    ·(first | rw [c16b0] | rw [c16b2] | (simp only [i64_w, i32_w]; rw [c16b0]) | skip)
     obtain rfl := Option.some.inj H
     go_wp2
     go_ret
     exact ⟨oE, oB⟩
    ·(first | rw [c16b0] | rw [c16b2] | (simp only [i64_w, i32_w]; rw [c16b0]) | skip)
     have H' := Aside0.mk H
     clear H
     go_wp2
     go_meet
     case rel => exact ⟨_, H', ⟨by have := HJ3.out; first | omega | exact Nat.le_refl _⟩, ⟨oF BK223⟩, ⟨oF BK224⟩, ⟨oB⟩⟩
   case rest =>
    clear HC12
    obtain ⟨kq, HA, HJ11, BK223, BK224, HB⟩ := hcut
    cases kq with
    | zero => exact absurd HA.out (by simp [laws_FnExactSameTab.j1])
    | succ kj11 =>
     have H := HA.out
     clear HA
     simp only [laws_FnExactSameTab.j1] at H
     replace H := bA H
     obtain ⟨⟨t227, t230⟩, A17, H⟩ := H
     try dsimp only at H
     replace H := bA H
     obtain ⟨⟨t231, t234⟩, A18, H⟩ := H
     try dsimp only at H
     replace H := bA H
     obtain ⟨t235, A19, H⟩ := H
     try dsimp only at H
     replace H := bA H
     obtain ⟨⟨t236, t239⟩, A20, H⟩ := H
     try dsimp only at H
     replace H := bA H
     obtain ⟨⟨t241, t244⟩, A21, H⟩ := H
     try dsimp only at H
     replace H := bA H
     obtain ⟨t246, A22, H⟩ := H
     try dsimp only at H
     have HC23 := Aside0.mk H
     clear H
     try go_wp2
     replace BK223 := Aside0.mk (blk_drew BK223.out)
     replace BK224 := Aside0.mk (blk_drew BK224.out)
     replace HB := Aside0.mk (below_drew1 HB.out)
     refine start_ (n := 6) (S := fun w' => w'.cell? ⟨gb223, 0, none⟩ = some (.slice A0_0 l0_0.length c0_0) ∧ w'.cell? ⟨gb223, 1, none⟩ = some (.int .i64 a0_1) ∧ w'.cell? ⟨gb224, 0, none⟩ = some (.slice A1_0 l1_0.length c1_0) ∧ w'.cell? ⟨gb224, 1, none⟩ = some (.int .i64 a1_1)) (ds := []) #[false, false, false, false, false, false] (by kernel_rfl) rfl rfl oH (fun hHeld => ?_)
     generalize wc.drew = w24 at BK223 BK224 HB hHeld ⊢
     refine take_ (i := 0) (N := some 20) (v := ?_) (a' := ?_) #[true, false, false, false, false, false] rfl rfl (by kernel_rfl) (fun _ _ _ h => h) (Or.inl ⟨by rfl, ?_⟩) hHeld ?_ ?_
     rotate_left
     ·rintro w' ⟨s0, s1, s2, s3⟩
      go_simp
      with_reducible rfl
     rotate_left
     ·simp only [Act.put, List.setIfInBounds_toArray, List.set_cons_zero, List.set_cons_succ, i64_w, i32_w]
      rfl
     refine take_ (i := 2) (N := some 22) (v := ?_) (a' := ?_) #[true, false, true, false, false, false] rfl rfl (by kernel_rfl) (fun _ _ _ h => h) (Or.inl ⟨by rfl, ?_⟩) hHeld ?_ ?_
     rotate_left
     ·rintro w' ⟨s0, s1, s2, s3⟩
      go_simp
      with_reducible rfl
     rotate_left
     ·simp only [Act.put, List.setIfInBounds_toArray, List.set_cons_zero, List.set_cons_succ, i64_w, i32_w]
      rfl
     refine one_ (i := 1) (N := some 21) #[true, true, true, false, false, false] rfl rfl (by kernel_rfl) (by decide) (fun K hK => ?_)
     refine gr_ 21 Try.func35 (laws_toTab.calls kj11 _ _ l0_0 a0_1 t227 t230 _ (kC HR0_0) HC0_0.out A17.out) ?_
     rintro e w25 ⟨v228, rfl, ho0, hb⟩
     refine ⟨_, rfl, ?_⟩
     have HO229 := Aside0.mk (Kd.S_lower ho0 (below_size oB))
     replace BK223 := kb_ BK223 hb
     replace BK224 := kb_ BK224 hb
     replace HB := Aside0.mk (below_step oB hb)
     refine hK.out _ _ oH (fun hHeld => ?_)
     clear hK K
     refine norm_ (a' := ?_) ?_ ?_
     rotate_left
     ·show Act.put _ (some 21) _ = _
      simp only [Act.put, List.setIfInBounds_toArray, List.set_cons_zero, List.set_cons_succ, i64_w, i32_w]
      rfl
     refine one_ (i := 3) (N := some 23) #[true, true, true, true, false, false] rfl rfl (by kernel_rfl) (by decide) (fun K hK => ?_)
     refine gr_ 23 Try.func35 (laws_toTab.calls kj11 _ _ l1_0 a1_1 t231 t234 _ (kC HR1_0) HC1_0.out A18.out) ?_
     rintro e w26 ⟨v232, rfl, ho0, hb⟩
     refine ⟨_, rfl, ?_⟩
     have HO233 := Aside0.mk (Kd.S_lower (Kd.S_new' ho0 (Kd.S_lt (by (with_reducible repeat (first | apply Kd.S_alloc | apply Kd.S_drewN | apply Kd.S_drew)); exact HO229.out))) (below_size oB))
     replace HO229 := Aside0.mk (Kd.S_elder' (by (with_reducible repeat (first | apply Kd.S_alloc | apply Kd.S_drewN | apply Kd.S_drew)); exact HO229.out) (Kd.S_base ho0) hb)
     replace BK223 := kb_ BK223 hb
     replace BK224 := kb_ BK224 hb
     replace HB := Aside0.mk (below_step oB hb)
     obtain ⟨Ao27, co27, eo27⟩ := Kd.S_slice HO229.out
     (first | subst eo27 | (injection eo27 with f1_ f2_ f3_; have f4_ := f1_.symm; have f5_ := f3_.symm; clear f1_ f2_ f3_; subst f4_; subst f5_))
     obtain ⟨Ao28, co28, eo28⟩ := Kd.S_slice HO233.out
     (first | subst eo28 | (injection eo28 with f1_ f2_ f3_; have f4_ := f1_.symm; have f5_ := f3_.symm; clear f1_ f2_ f3_; subst f4_; subst f5_))
     refine hK.out _ _ oH (fun hHeld => ?_)
     clear hK K
     refine norm_ (a' := ?_) ?_ ?_
     rotate_left
     ·show Act.put _ (some 23) _ = _
      simp only [Act.put, List.setIfInBounds_toArray, List.set_cons_zero, List.set_cons_succ, i64_w, i32_w]
      rfl
     refine one_ (i := 4) (N := some 24) #[true, true, true, true, true, false] rfl rfl (by kernel_rfl) (by decide) (fun K hK => ?_)
     refine gr_ 24 Try.func41 (spec_SameTab.calls kj11 _ _ t227 t230 _ _ t231 t234 t235 _ ?side1 ?side2 ?side3 ?side4 A19.out) ?_
     (case side1 => repeat (first | exact (Kd.S_reads' HO229.out).2.2 | (with_reducible refine Kd.C_alloc ?_ _) | (with_reducible refine Kd.C_drewN ?_ _) | (with_reducible refine Kd.C_drew ?_)))
     (case side2 => exact (Kd.S_reads' HO229.out).2.1)
     (case side3 => repeat (first | exact (Kd.S_reads' HO233.out).2.2 | (with_reducible refine Kd.C_alloc ?_ _) | (with_reducible refine Kd.C_drewN ?_ _) | (with_reducible refine Kd.C_drew ?_)))
     (case side4 => exact (Kd.S_reads' HO233.out).2.1)
     rintro e w29 ⟨rfl, hb⟩
     refine ⟨_, rfl, ?_⟩
     replace HO229 := Aside0.mk (Kd.S_below (by (with_reducible repeat (first | apply Kd.S_alloc | apply Kd.S_drewN | apply Kd.S_drew)); exact HO229.out) hb)
     replace HO233 := Aside0.mk (Kd.S_below (by (with_reducible repeat (first | apply Kd.S_alloc | apply Kd.S_drewN | apply Kd.S_drew)); exact HO233.out) hb)
     replace BK223 := kb_ BK223 hb
     replace BK224 := kb_ BK224 hb
     replace HB := Aside0.mk (below_step oB hb)
     refine hK.out _ _ oH (fun hHeld => ?_)
     clear hK K
     refine norm_ (a' := ?_) ?_ ?_
     rotate_left
     ·show Act.put _ (some 24) _ = _
      simp only [Act.put, List.setIfInBounds_toArray, List.set_cons_zero, List.set_cons_succ, i64_w, i32_w]
      rfl
     refine pure_ (i := 5) (N := some 6) (v := ?_) (a' := ?_) #[true, true, true, true, true, true] rfl rfl (by kernel_rfl) (fun _ _ _ h => h) (Or.inl ⟨by rfl, ?_⟩) ?_ ?_
     rotate_left
     ·intro w'
      go_simp
      with_reducible rfl
     rotate_left
     ·simp only [Act.put, List.setIfInBounds_toArray, List.set_cons_zero, List.set_cons_succ, i64_w, i32_w]
      rfl
     refine done_ (by kernel_rfl) ?_
     have hnb30 := NB223_224.out
     have hnc30 := NB224_223.out
     obtain ⟨⟨_, _⟩, _, _⟩ := z2 BK223
     go_upto_if 34 with (first | ((with_reducible refine gate_callee (f := 35) rfl ?_); refine gl_ 26 Try.func35 (laws_toTab.calls kj11 _ _ l0_0 a0_1 t236 t239 _ (kC HR0_0) HC0_0.out A20.out) ?_; rintro e w32 ⟨v237, rfl, ho0, hb⟩; refine ⟨_, rfl, ?_⟩; have HO238 := Aside0.mk (Kd.S_lower (Kd.S_new' (Kd.S_new' ho0 (Kd.S_lt (by (with_reducible repeat (first | apply Kd.S_alloc | apply Kd.S_drewN | apply Kd.S_drew)); exact HO229.out))) (Kd.S_lt (by (with_reducible repeat (first | apply Kd.S_alloc | apply Kd.S_drewN | apply Kd.S_drew)); exact HO233.out))) (below_size oB)); replace HO229 := Aside0.mk (Kd.S_elder' (by (with_reducible repeat (first | apply Kd.S_alloc | apply Kd.S_drewN | apply Kd.S_drew)); exact HO229.out) (Kd.S_base ho0) hb); replace HO233 := Aside0.mk (Kd.S_elder' (by (with_reducible repeat (first | apply Kd.S_alloc | apply Kd.S_drewN | apply Kd.S_drew)); exact HO233.out) (Kd.S_base ho0) hb); replace BK223 := kb_ BK223 hb; replace BK224 := kb_ BK224 hb; replace HB := Aside0.mk (below_step oB hb)) | ((with_reducible refine gate_dst (N := 7) rfl ?_); refine bx_ 7 #[.slice none 0 0, .int .i64 0] 30 ?_; intro gb240 hg w33 hbox hb; have BK240 := Aside0.mk (hbox); have GW240 := gs_ hg; have GE240 := gs_ hg; have NB223_240 := nl_ hg BK223; have NB240_223 := nr_ hg BK223; have NB224_240 := nl_ hg BK224; have NB240_224 := nr_ hg BK224; replace HO229 := Aside0.mk (Kd.S_below (by (with_reducible repeat (first | apply Kd.S_alloc | apply Kd.S_drewN | apply Kd.S_drew)); exact HO229.out) hb); replace HO233 := Aside0.mk (Kd.S_below (by (with_reducible repeat (first | apply Kd.S_alloc | apply Kd.S_drewN | apply Kd.S_drew)); exact HO233.out) hb); replace HO238 := Aside0.mk (Kd.S_below (by (with_reducible repeat (first | apply Kd.S_alloc | apply Kd.S_drewN | apply Kd.S_drew)); exact HO238.out) hb); replace BK223 := kb_ BK223 hb; replace BK224 := kb_ BK224 hb; replace HB := Aside0.mk (below_step oB hb); clear hb hbox hg; obtain ⟨Ao34, co34, eo34⟩ := Kd.S_slice HO238.out; subst eo34; have hnb35 := NB240_223.out; have hnc35 := NB223_240.out; have hnb36 := NB240_224.out; have hnc36 := NB224_240.out; obtain ⟨⟨_, _⟩, _, _⟩ := z2 BK240; obtain ⟨⟨_, _⟩, _, _⟩ := z2 BK224) | ((with_reducible refine gate_callee (f := 35) rfl ?_); refine gl_ 28 Try.func35 (laws_toTab.calls kj11 _ _ l1_0 a1_1 t241 t244 _ ?side1 HC1_0.out A21.out) ?_; (case side1 => exact Kd.C_below HR1_0.out oB); rintro e w39 ⟨v242, rfl, ho0, hb⟩; refine ⟨_, rfl, ?_⟩; have HO243 := Aside0.mk (Kd.S_lower (Kd.S_new' (Kd.S_new' (Kd.S_new' ho0 (Kd.S_lt (by (with_reducible repeat (first | apply Kd.S_alloc | apply Kd.S_drewN | apply Kd.S_drew)); exact (Kd.S_mono (Kd.S_far (p := ⟨gb240, 1, none⟩) (Kd.S_far (p := ⟨gb240, 0, none⟩) (Kd.S_types HO229.out BK240.out (by decide)) (fun _ hk => hk.2) (.slice Ao34 t236.length co34)) (fun _ hk => hk.2) (.int .i64 t239)) (fun _ h_ => h_.1))))) (Kd.S_lt (by (with_reducible repeat (first | apply Kd.S_alloc | apply Kd.S_drewN | apply Kd.S_drew)); exact (Kd.S_mono (Kd.S_far (p := ⟨gb240, 1, none⟩) (Kd.S_far (p := ⟨gb240, 0, none⟩) (Kd.S_types HO233.out BK240.out (by decide)) (fun _ hk => hk.2) (.slice Ao34 t236.length co34)) (fun _ hk => hk.2) (.int .i64 t239)) (fun _ h_ => h_.1))))) (Kd.S_lt (by (with_reducible repeat (first | apply Kd.S_alloc | apply Kd.S_drewN | apply Kd.S_drew)); exact (Kd.S_mono (Kd.S_far (p := ⟨gb240, 1, none⟩) (Kd.S_far (p := ⟨gb240, 0, none⟩) (Kd.S_types HO238.out BK240.out (by decide)) (fun _ hk => hk.2) (.slice Ao34 t236.length co34)) (fun _ hk => hk.2) (.int .i64 t239)) (fun _ h_ => h_.1))))) (below_size oB)); replace HO229 := Aside0.mk (Kd.S_elder' (by (with_reducible repeat (first | apply Kd.S_alloc | apply Kd.S_drewN | apply Kd.S_drew)); exact (Kd.S_mono (Kd.S_far (p := ⟨gb240, 1, none⟩) (Kd.S_far (p := ⟨gb240, 0, none⟩) (Kd.S_types HO229.out BK240.out (by decide)) (fun _ hk => hk.2) (.slice Ao34 t236.length co34)) (fun _ hk => hk.2) (.int .i64 t239)) (fun _ h_ => h_.1))) (Kd.S_base ho0) hb); replace HO233 := Aside0.mk (Kd.S_elder' (by (with_reducible repeat (first | apply Kd.S_alloc | apply Kd.S_drewN | apply Kd.S_drew)); exact (Kd.S_mono (Kd.S_far (p := ⟨gb240, 1, none⟩) (Kd.S_far (p := ⟨gb240, 0, none⟩) (Kd.S_types HO233.out BK240.out (by decide)) (fun _ hk => hk.2) (.slice Ao34 t236.length co34)) (fun _ hk => hk.2) (.int .i64 t239)) (fun _ h_ => h_.1))) (Kd.S_base ho0) hb); replace HO238 := Aside0.mk (Kd.S_elder' (by (with_reducible repeat (first | apply Kd.S_alloc | apply Kd.S_drewN | apply Kd.S_drew)); exact (Kd.S_mono (Kd.S_far (p := ⟨gb240, 1, none⟩) (Kd.S_far (p := ⟨gb240, 0, none⟩) (Kd.S_types HO238.out BK240.out (by decide)) (fun _ hk => hk.2) (.slice Ao34 t236.length co34)) (fun _ hk => hk.2) (.int .i64 t239)) (fun _ h_ => h_.1))) (Kd.S_base ho0) hb); replace BK223 := Aside0.mk (blk_below (g := gb223) (o := .cells #[.slice A0_0 l0_0.length c0_0, .int .i64 a0_1] 50 (0, 0)) (by (with_reducible repeat (first | refine blk_drewN ?_ _ | refine blk_drew ?_ | refine blk_alloc ?_ _)); refine blk_far ?_ NB223_240.out _; (with_reducible repeat (first | refine blk_drewN ?_ _ | refine blk_drew ?_ | refine blk_alloc ?_ _)); refine blk_far ?_ NB223_240.out _; (with_reducible repeat (first | refine blk_drewN ?_ _ | refine blk_drew ?_ | refine blk_alloc ?_ _)); exact BK223.out) hb); replace BK224 := Aside0.mk (blk_below (g := gb224) (o := .cells #[.slice A1_0 l1_0.length c1_0, .int .i64 a1_1] 50 (0, 0)) (by (with_reducible repeat (first | refine blk_drewN ?_ _ | refine blk_drew ?_ | refine blk_alloc ?_ _)); refine blk_far ?_ NB224_240.out _; (with_reducible repeat (first | refine blk_drewN ?_ _ | refine blk_drew ?_ | refine blk_alloc ?_ _)); refine blk_far ?_ NB224_240.out _; (with_reducible repeat (first | refine blk_drewN ?_ _ | refine blk_drew ?_ | refine blk_alloc ?_ _)); exact BK224.out) hb); replace BK240 := Aside0.mk (blk_below (g := gb240) (o := .cells #[.slice Ao34 t236.length co34, .int .i64 t239] 30 (0, 0)) (by (with_reducible repeat (first | refine blk_drewN ?_ _ | refine blk_drew ?_ | refine blk_alloc ?_ _)); refine blk_put (cs := #[.slice Ao34 t236.length co34, .int .i64 0]) ?_ 1 _ rfl; (with_reducible repeat (first | refine blk_drewN ?_ _ | refine blk_drew ?_ | refine blk_alloc ?_ _)); refine blk_put (cs := #[.slice none 0 0, .int .i64 0]) ?_ 0 _ rfl; (with_reducible repeat (first | refine blk_drewN ?_ _ | refine blk_drew ?_ | refine blk_alloc ?_ _)); exact BK240.out) hb); replace HB := Aside0.mk (below_step oB hb); (try clear hk)) | ((with_reducible refine gate_dst (N := 8) rfl ?_); refine bx_ 8 #[.slice none 0 0, .int .i64 0] 30 ?_; intro gb245 hg w40 hbox hb; have BK245 := Aside0.mk (hbox); have GW245 := gs_ hg; have GE245 := gs_ hg; have NB223_245 := nl_ hg BK223; have NB245_223 := nr_ hg BK223; have NB224_245 := nl_ hg BK224; have NB245_224 := nr_ hg BK224; have NB240_245 := nl_ hg BK240; have NB245_240 := nr_ hg BK240; replace HO229 := Aside0.mk (Kd.S_below (by (with_reducible repeat (first | apply Kd.S_alloc | apply Kd.S_drewN | apply Kd.S_drew)); exact HO229.out) hb); replace HO233 := Aside0.mk (Kd.S_below (by (with_reducible repeat (first | apply Kd.S_alloc | apply Kd.S_drewN | apply Kd.S_drew)); exact HO233.out) hb); replace HO238 := Aside0.mk (Kd.S_below (by (with_reducible repeat (first | apply Kd.S_alloc | apply Kd.S_drewN | apply Kd.S_drew)); exact HO238.out) hb); replace HO243 := Aside0.mk (Kd.S_below (by (with_reducible repeat (first | apply Kd.S_alloc | apply Kd.S_drewN | apply Kd.S_drew)); exact HO243.out) hb); replace BK223 := kb_ BK223 hb; replace BK224 := kb_ BK224 hb; replace BK240 := kb_ BK240 hb; replace HB := Aside0.mk (below_step oB hb); clear hb hbox hg; obtain ⟨Ao41, co41, eo41⟩ := Kd.S_slice HO243.out; subst eo41; have hnb42 := NB245_223.out; have hnc42 := NB223_245.out; have hnb43 := NB245_224.out; have hnc43 := NB224_245.out; have hnb44 := NB245_240.out; have hnc44 := NB240_245.out; obtain ⟨⟨_, _⟩, _, _⟩ := z2 BK245; obtain ⟨⟨_, _⟩, _, _⟩ := z2 BK240) | ((with_reducible refine gate_callee (f := 42) rfl ?_); refine gl_ 31 Try.func42 (impl_SameTab.calls kj11 _ _ t236 t239 _ _ t241 t244 t246 _ ?side1 ?side2 ?side3 ?side4 A22.out) ?_; (case side1 => refine (Kd.S_reads' (e := 45) (base := w.heap.size) (ok := fun k_ => (((True ∧ some k_ ≠ (.slice Ao27 t227.length co27 : Value).ownBlock) ∧ some k_ ≠ (.slice Ao28 t231.length co28 : Value).ownBlock) ∧ some k_ ≠ (.slice Ao41 t241.length co41 : Value).ownBlock)) (n := t236.length) (c := co34) ?_).2.2; exact (by (with_reducible repeat (first | apply Kd.S_alloc | apply Kd.S_drewN | apply Kd.S_drew)); exact (Kd.S_mono (Kd.S_far (p := ⟨gb245, 1, none⟩) (Kd.S_far (p := ⟨gb245, 0, none⟩) (Kd.S_types HO238.out BK245.out (by decide)) (fun _ hk => hk.2) (.slice Ao41 t241.length co41)) (fun _ hk => hk.2) (.int .i64 t244)) (fun _ h_ => h_.1)))); (case side2 => exact (Kd.S_reads' HO238.out).2.1); (case side3 => refine (Kd.S_reads' (e := 45) (base := w.heap.size) (ok := fun k_ => (((True ∧ some k_ ≠ (.slice Ao27 t227.length co27 : Value).ownBlock) ∧ some k_ ≠ (.slice Ao28 t231.length co28 : Value).ownBlock) ∧ some k_ ≠ (.slice Ao34 t236.length co34 : Value).ownBlock)) (n := t241.length) (c := co41) ?_).2.2; exact (by (with_reducible repeat (first | apply Kd.S_alloc | apply Kd.S_drewN | apply Kd.S_drew)); exact (Kd.S_mono (Kd.S_far (p := ⟨gb245, 1, none⟩) (Kd.S_far (p := ⟨gb245, 0, none⟩) (Kd.S_types HO243.out BK245.out (by decide)) (fun _ hk => hk.2) (.slice Ao41 t241.length co41)) (fun _ hk => hk.2) (.int .i64 t244)) (fun _ h_ => h_.1)))); (case side4 => exact (Kd.S_reads' HO243.out).2.1); rintro e w47 ⟨rfl, hb⟩; refine ⟨_, rfl, ?_⟩; replace HO229 := Aside0.mk (Kd.S_below (by (with_reducible repeat (first | apply Kd.S_alloc | apply Kd.S_drewN | apply Kd.S_drew)); exact (Kd.S_mono (Kd.S_far (p := ⟨gb245, 1, none⟩) (Kd.S_far (p := ⟨gb245, 0, none⟩) (Kd.S_types HO229.out BK245.out (by decide)) (fun _ hk => hk.2) (.slice Ao41 t241.length co41)) (fun _ hk => hk.2) (.int .i64 t244)) (fun _ h_ => h_.1))) hb); replace HO233 := Aside0.mk (Kd.S_below (by (with_reducible repeat (first | apply Kd.S_alloc | apply Kd.S_drewN | apply Kd.S_drew)); exact (Kd.S_mono (Kd.S_far (p := ⟨gb245, 1, none⟩) (Kd.S_far (p := ⟨gb245, 0, none⟩) (Kd.S_types HO233.out BK245.out (by decide)) (fun _ hk => hk.2) (.slice Ao41 t241.length co41)) (fun _ hk => hk.2) (.int .i64 t244)) (fun _ h_ => h_.1))) hb); replace HO238 := Aside0.mk (Kd.S_below (by (with_reducible repeat (first | apply Kd.S_alloc | apply Kd.S_drewN | apply Kd.S_drew)); exact (Kd.S_mono (Kd.S_far (p := ⟨gb245, 1, none⟩) (Kd.S_far (p := ⟨gb245, 0, none⟩) (Kd.S_types HO238.out BK245.out (by decide)) (fun _ hk => hk.2) (.slice Ao41 t241.length co41)) (fun _ hk => hk.2) (.int .i64 t244)) (fun _ h_ => h_.1))) hb); replace HO243 := Aside0.mk (Kd.S_below (by (with_reducible repeat (first | apply Kd.S_alloc | apply Kd.S_drewN | apply Kd.S_drew)); exact (Kd.S_mono (Kd.S_far (p := ⟨gb245, 1, none⟩) (Kd.S_far (p := ⟨gb245, 0, none⟩) (Kd.S_types HO243.out BK245.out (by decide)) (fun _ hk => hk.2) (.slice Ao41 t241.length co41)) (fun _ hk => hk.2) (.int .i64 t244)) (fun _ h_ => h_.1))) hb); replace BK223 := Aside0.mk (blk_below (g := gb223) (o := .cells #[.slice A0_0 l0_0.length c0_0, .int .i64 a0_1] 50 (0, 0)) (by (with_reducible repeat (first | refine blk_drewN ?_ _ | refine blk_drew ?_ | refine blk_alloc ?_ _)); refine blk_far ?_ NB223_245.out _; (with_reducible repeat (first | refine blk_drewN ?_ _ | refine blk_drew ?_ | refine blk_alloc ?_ _)); refine blk_far ?_ NB223_245.out _; (with_reducible repeat (first | refine blk_drewN ?_ _ | refine blk_drew ?_ | refine blk_alloc ?_ _)); exact BK223.out) hb); replace BK224 := Aside0.mk (blk_below (g := gb224) (o := .cells #[.slice A1_0 l1_0.length c1_0, .int .i64 a1_1] 50 (0, 0)) (by (with_reducible repeat (first | refine blk_drewN ?_ _ | refine blk_drew ?_ | refine blk_alloc ?_ _)); refine blk_far ?_ NB224_245.out _; (with_reducible repeat (first | refine blk_drewN ?_ _ | refine blk_drew ?_ | refine blk_alloc ?_ _)); refine blk_far ?_ NB224_245.out _; (with_reducible repeat (first | refine blk_drewN ?_ _ | refine blk_drew ?_ | refine blk_alloc ?_ _)); exact BK224.out) hb); replace BK240 := Aside0.mk (blk_below (g := gb240) (o := .cells #[.slice Ao34 t236.length co34, .int .i64 t239] 30 (0, 0)) (by (with_reducible repeat (first | refine blk_drewN ?_ _ | refine blk_drew ?_ | refine blk_alloc ?_ _)); refine blk_far ?_ NB240_245.out _; (with_reducible repeat (first | refine blk_drewN ?_ _ | refine blk_drew ?_ | refine blk_alloc ?_ _)); refine blk_far ?_ NB240_245.out _; (with_reducible repeat (first | refine blk_drewN ?_ _ | refine blk_drew ?_ | refine blk_alloc ?_ _)); exact BK240.out) hb); replace BK245 := Aside0.mk (blk_below (g := gb245) (o := .cells #[.slice Ao41 t241.length co41, .int .i64 t244] 30 (0, 0)) (by (with_reducible repeat (first | refine blk_drewN ?_ _ | refine blk_drew ?_ | refine blk_alloc ?_ _)); refine blk_put (cs := #[.slice Ao41 t241.length co41, .int .i64 0]) ?_ 1 _ rfl; (with_reducible repeat (first | refine blk_drewN ?_ _ | refine blk_drew ?_ | refine blk_alloc ?_ _)); refine blk_put (cs := #[.slice none 0 0, .int .i64 0]) ?_ 0 _ rfl; (with_reducible repeat (first | refine blk_drewN ?_ _ | refine blk_drew ?_ | refine blk_alloc ?_ _)); exact BK245.out) hb); replace HB := Aside0.mk (below_step oB hb); (try clear hk)))
     (try simp only [Act.put, List.setIfInBounds_toArray, List.set_cons_zero, List.set_cons_succ])
     go_cut [] (fun wc => ∃ (kq : Nat), Aside0 (laws_FnExactSameTab.j2 kq l0_0 a0_1 l1_0 a1_1 t236 t239 t241 t244 = some r) ∧ Aside0 (kq ≤ kj11) ∧ Aside0 (Kd.S k45 45 wc w.heap.size (fun k_ => some k_ ≠ ((.slice Ao41 t241.length co41) : Value).ownBlock) (.slice Ao34 t236.length co34) t236) ∧ Aside0 (Kd.S k45 45 wc w.heap.size (fun k_ => some k_ ≠ ((.slice Ao34 t236.length co34) : Value).ownBlock) (.slice Ao41 t241.length co41) t241) ∧ Aside0 (wc.heap[gb223]? = some (.cells #[(.slice A0_0 l0_0.length c0_0), .int .i64 a0_1] 50 (0, 0))) ∧ Aside0 (wc.heap[gb224]? = some (.cells #[(.slice A1_0 l1_0.length c1_0), .int .i64 a1_1] 50 (0, 0))) ∧ Aside0 (wc.heap[gb240]? = some (.cells #[(.slice Ao34 t236.length co34), .int .i64 t239] 30 (0, 0))) ∧ Aside0 (wc.heap[gb245]? = some (.cells #[(.slice Ao41 t241.length co41), .int .i64 t244] 30 (0, 0))) ∧ Aside0 (Below w.heap.size w wc))
     case first =>
      have H := HC23.out
      clear HC23
      by_cases c48 : (t246 != t235) = true
      ·rw [if_pos c48] at H
       have c48b0 : (t246 != t235) = true := c48
       (try (have c48b1 : decide (t246 = t235) = false := by simpa using c48))
       (try (have c48b2 : (t246 == t235) = false := by simpa using c48))
       (try (have c48b3 : ¬ (t246 = t235) := by simpa using c48))
       clear c48
       (first | rw [c48b0] | rw [c48b2] | (simp only [i64_w, i32_w]; rw [c48b0]) | skip)
       obtain rfl := Option.some.inj H
       go_wp2
       go_ret
       exact ⟨oE, oB⟩
      ·rw [if_neg c48] at H
       have c48b0 : (t246 != t235) = false := by simpa using c48
       (try (have c48b1 : decide (t246 = t235) = true := by simpa using c48))
       (try (have c48b2 : (t246 == t235) = true := by simpa using c48))
       clear c48
       (first | rw [c48b0] | rw [c48b2] | (simp only [i64_w, i32_w]; rw [c48b0]) | skip)
       have H' := Aside0.mk H
       clear H
       go_wp2
       go_meet
       case rel => exact ⟨_, H', ⟨by have := HJ3.out; have := HJ11.out; first | omega | exact Nat.le_refl _⟩, ⟨by (with_reducible repeat (first | apply Kd.S_alloc | apply Kd.S_drewN | apply Kd.S_drew)); exact Kd.S_mono HO238.out (fun _ hk => hk.2)⟩, ⟨by (with_reducible repeat (first | apply Kd.S_alloc | apply Kd.S_drewN | apply Kd.S_drew)); exact Kd.S_mono HO243.out (fun _ hk => hk.2)⟩, ⟨oF BK223⟩, ⟨oF BK224⟩, ⟨oF BK240⟩, ⟨oF BK245⟩, ⟨oB⟩⟩
     case rest =>
      clear HC23
      obtain ⟨kq, HA, HJ22, HO_241000, HO_246000, BK223, BK224, BK240, BK245, HB⟩ := hcut
      cases kq with
      | zero => exact absurd HA.out (by simp [laws_FnExactSameTab.j2])
      | succ kj22 =>
       have H := HA.out
       clear HA
       simp only [laws_FnExactSameTab.j2] at H
       replace H := bA H
       obtain ⟨⟨t247, t250⟩, A49, H⟩ := H
       try dsimp only at H
       replace H := bA H
       obtain ⟨t251, A50, H⟩ := H
       try dsimp only at H
       have HC51 := Aside0.mk H
       clear H
       try go_wp2
       replace HO_241000 := Aside0.mk (Kd.S_drew HO_241000.out)
       replace HO_246000 := Aside0.mk (Kd.S_drew HO_246000.out)
       replace BK223 := Aside0.mk (blk_drew BK223.out)
       replace BK224 := Aside0.mk (blk_drew BK224.out)
       replace BK240 := Aside0.mk (blk_drew BK240.out)
       replace BK245 := Aside0.mk (blk_drew BK245.out)
       replace HB := Aside0.mk (below_drew1 HB.out)
       refine start_ (n := 5) (S := fun w' => w'.cell? ⟨gb240, 0, none⟩ = some (.slice Ao34 t236.length co34) ∧ w'.cell? ⟨gb240, 1, none⟩ = some (.int .i64 t239) ∧ w'.cell? ⟨gb223, 0, none⟩ = some (.slice A0_0 l0_0.length c0_0) ∧ w'.cell? ⟨gb223, 1, none⟩ = some (.int .i64 a0_1)) (ds := []) #[false, false, false, false, false] (by kernel_rfl) rfl rfl oH (fun hHeld => ?_)
       generalize wc.drew = w52 at HO_241000 HO_246000 BK223 BK224 BK240 BK245 HB hHeld ⊢
       refine take_ (i := 0) (N := some 35) (v := ?_) (a' := ?_) #[true, false, false, false, false] rfl rfl (by kernel_rfl) (fun _ _ _ h => h) (Or.inl ⟨by rfl, ?_⟩) hHeld ?_ ?_
       rotate_left
       ·rintro w' ⟨s0, s1, s2, s3⟩
        go_simp
        with_reducible rfl
       rotate_left
       ·simp only [Act.put, List.setIfInBounds_toArray, List.set_cons_zero, List.set_cons_succ, i64_w, i32_w]
        rfl
       refine take_ (i := 1) (N := some 36) (v := ?_) (a' := ?_) #[true, true, false, false, false] rfl rfl (by kernel_rfl) (fun _ _ _ h => h) (Or.inl ⟨by rfl, ?_⟩) hHeld ?_ ?_
       rotate_left
       ·rintro w' ⟨s0, s1, s2, s3⟩
        go_simp
        with_reducible rfl
       rotate_left
       ·simp only [Act.put, List.setIfInBounds_toArray, List.set_cons_zero, List.set_cons_succ, i64_w, i32_w]
        rfl
       refine one_ (i := 2) (N := some 37) #[true, true, true, false, false] rfl rfl (by kernel_rfl) (by decide) (fun K hK => ?_)
       refine gr_ 37 Try.func35 (laws_toTab.calls kj22 _ _ l0_0 a0_1 t247 t250 _ (kC HR0_0) HC0_0.out A49.out) ?_
       rintro e w53 ⟨v248, rfl, ho0, hb⟩
       refine ⟨_, rfl, ?_⟩
       have HO249 := Aside0.mk (Kd.S_lower (Kd.S_new' (Kd.S_new' ho0 (Kd.S_lt (by (with_reducible repeat (first | apply Kd.S_alloc | apply Kd.S_drewN | apply Kd.S_drew)); exact HO_241000.out))) (Kd.S_lt (by (with_reducible repeat (first | apply Kd.S_alloc | apply Kd.S_drewN | apply Kd.S_drew)); exact HO_246000.out))) (below_size oB))
       replace HO_241000 := Aside0.mk (Kd.S_elder' (by (with_reducible repeat (first | apply Kd.S_alloc | apply Kd.S_drewN | apply Kd.S_drew)); exact HO_241000.out) (Kd.S_base ho0) hb)
       replace HO_246000 := Aside0.mk (Kd.S_elder' (by (with_reducible repeat (first | apply Kd.S_alloc | apply Kd.S_drewN | apply Kd.S_drew)); exact HO_246000.out) (Kd.S_base ho0) hb)
       replace BK223 := kb_ BK223 hb
       replace BK224 := kb_ BK224 hb
       replace BK240 := kb_ BK240 hb
       replace BK245 := kb_ BK245 hb
       replace HB := Aside0.mk (below_step oB hb)
       obtain ⟨Ao54, co54, eo54⟩ := Kd.S_slice HO249.out
       (first | subst eo54 | (injection eo54 with f1_ f2_ f3_; have f4_ := f1_.symm; have f5_ := f3_.symm; clear f1_ f2_ f3_; subst f4_; subst f5_))
       refine hK.out _ _ oH (fun hHeld => ?_)
       clear hK K
       refine norm_ (a' := ?_) ?_ ?_
       rotate_left
       ·show Act.put _ (some 37) _ = _
        simp only [Act.put, List.setIfInBounds_toArray, List.set_cons_zero, List.set_cons_succ, i64_w, i32_w]
        rfl
       refine one_ (i := 3) (N := some 38) #[true, true, true, true, false] rfl rfl (by kernel_rfl) (by decide) (fun K hK => ?_)
       refine gr_ 38 Try.func25 (laws_eqTab.calls kj22 _ _ t236 t239 _ _ t247 t250 t251 _ ?side1 ?side2 ?side3 ?side4 A50.out) ?_
       (case side1 => repeat (first | exact (Kd.S_reads' HO_241000.out).2.2 | (with_reducible refine Kd.C_alloc ?_ _) | (with_reducible refine Kd.C_drewN ?_ _) | (with_reducible refine Kd.C_drew ?_)))
       (case side2 => exact (Kd.S_reads' HO_241000.out).2.1)
       (case side3 => repeat (first | exact (Kd.S_reads' HO249.out).2.2 | (with_reducible refine Kd.C_alloc ?_ _) | (with_reducible refine Kd.C_drewN ?_ _) | (with_reducible refine Kd.C_drew ?_)))
       (case side4 => exact (Kd.S_reads' HO249.out).2.1)
       rintro e w55 ⟨rfl, hb⟩
       refine ⟨_, rfl, ?_⟩
       replace HO_241000 := Aside0.mk (Kd.S_below (by (with_reducible repeat (first | apply Kd.S_alloc | apply Kd.S_drewN | apply Kd.S_drew)); exact HO_241000.out) hb)
       replace HO_246000 := Aside0.mk (Kd.S_below (by (with_reducible repeat (first | apply Kd.S_alloc | apply Kd.S_drewN | apply Kd.S_drew)); exact HO_246000.out) hb)
       replace HO249 := Aside0.mk (Kd.S_below (by (with_reducible repeat (first | apply Kd.S_alloc | apply Kd.S_drewN | apply Kd.S_drew)); exact HO249.out) hb)
       replace BK223 := kb_ BK223 hb
       replace BK224 := kb_ BK224 hb
       replace BK240 := kb_ BK240 hb
       replace BK245 := kb_ BK245 hb
       replace HB := Aside0.mk (below_step oB hb)
       refine hK.out _ _ oH (fun hHeld => ?_)
       clear hK K
       refine norm_ (a' := ?_) ?_ ?_
       rotate_left
       ·show Act.put _ (some 38) _ = _
        simp only [Act.put, List.setIfInBounds_toArray, List.set_cons_zero, List.set_cons_succ, i64_w, i32_w]
        rfl
       refine pure_ (i := 4) (N := some 39) (v := ?_) (a' := ?_) #[true, true, true, true, true] rfl rfl (by kernel_rfl) (fun _ _ _ h => h) (Or.inl ⟨by rfl, ?_⟩) ?_ ?_
       rotate_left
       ·intro w'
        go_simp
        with_reducible rfl
       rotate_left
       ·simp only [Act.put, List.setIfInBounds_toArray, List.set_cons_zero, List.set_cons_succ, i64_w, i32_w]
        rfl
       refine done_ (by kernel_rfl) ?_
       go_upto_if 39 with (fail)
       go_cut [] (fun wc => ∃ (kq : Nat), Aside0 (laws_FnExactSameTab.j3 kq l1_0 a1_1 t241 t244 = some r) ∧ Aside0 (kq ≤ kj22) ∧ Aside0 (Kd.S k45 45 wc w.heap.size (fun k_ => some k_ ≠ ((.slice Ao41 t241.length co41) : Value).ownBlock) (.slice Ao34 t236.length co34) t236) ∧ Aside0 (Kd.S k45 45 wc w.heap.size (fun k_ => some k_ ≠ ((.slice Ao34 t236.length co34) : Value).ownBlock) (.slice Ao41 t241.length co41) t241) ∧ Aside0 (wc.heap[gb223]? = some (.cells #[(.slice A0_0 l0_0.length c0_0), .int .i64 a0_1] 50 (0, 0))) ∧ Aside0 (wc.heap[gb224]? = some (.cells #[(.slice A1_0 l1_0.length c1_0), .int .i64 a1_1] 50 (0, 0))) ∧ Aside0 (wc.heap[gb240]? = some (.cells #[(.slice Ao34 t236.length co34), .int .i64 t239] 30 (0, 0))) ∧ Aside0 (wc.heap[gb245]? = some (.cells #[(.slice Ao41 t241.length co41), .int .i64 t244] 30 (0, 0))) ∧ Aside0 (Below w.heap.size w wc))
       case first =>
        have H := HC51.out
        clear HC51
        replace H := itB H
        rcases H with ⟨rfl, H⟩ | ⟨rfl, H⟩
        ·have H' := Aside0.mk H
         clear H
         go_wp2
         go_meet
         case rel => exact ⟨_, H', ⟨by have := HJ3.out; have := HJ11.out; have := HJ22.out; first | omega | exact Nat.le_refl _⟩, ⟨by (with_reducible repeat (first | apply Kd.S_alloc | apply Kd.S_drewN | apply Kd.S_drew)); exact Kd.S_mono HO_241000.out (fun _ hk => hk.1)⟩, ⟨by (with_reducible repeat (first | apply Kd.S_alloc | apply Kd.S_drewN | apply Kd.S_drew)); exact Kd.S_mono HO_246000.out (fun _ hk => hk.1)⟩, ⟨oF BK223⟩, ⟨oF BK224⟩, ⟨oF BK240⟩, ⟨oF BK245⟩, ⟨oB⟩⟩
        ·obtain rfl := Option.some.inj H
         go_wp2
         go_ret
         exact ⟨oE, oB⟩
       case rest =>
        clear HC51
        obtain ⟨kq, HA, HJ50, HO_241000, HO_246000, BK223, BK224, BK240, BK245, HB⟩ := hcut
        cases kq with
        | zero => exact absurd HA.out (by simp [laws_FnExactSameTab.j3])
        | succ kj50 =>
         have H := HA.out
         clear HA
         simp only [laws_FnExactSameTab.j3] at H
         replace H := bA H
         obtain ⟨⟨t252, t255⟩, A57, H⟩ := H
         try dsimp only at H
         replace H := bA H
         obtain ⟨t256, A58, H⟩ := H
         try dsimp only at H
         replace H := itB H
         rcases H with ⟨rfl, H⟩ | ⟨rfl, H⟩
         ·obtain rfl := Option.some.inj H
          try go_wp2
          replace HO_241000 := Aside0.mk (Kd.S_drew HO_241000.out)
          replace HO_246000 := Aside0.mk (Kd.S_drew HO_246000.out)
          replace BK223 := Aside0.mk (blk_drew BK223.out)
          replace BK224 := Aside0.mk (blk_drew BK224.out)
          replace BK240 := Aside0.mk (blk_drew BK240.out)
          replace BK245 := Aside0.mk (blk_drew BK245.out)
          replace HB := Aside0.mk (below_drew1 HB.out)
          refine start_ (n := 5) (S := fun w' => w'.cell? ⟨gb245, 0, none⟩ = some (.slice Ao41 t241.length co41) ∧ w'.cell? ⟨gb245, 1, none⟩ = some (.int .i64 t244) ∧ w'.cell? ⟨gb224, 0, none⟩ = some (.slice A1_0 l1_0.length c1_0) ∧ w'.cell? ⟨gb224, 1, none⟩ = some (.int .i64 a1_1)) (ds := []) #[false, false, false, false, false] (by kernel_rfl) rfl rfl oH (fun hHeld => ?_)
          generalize wc.drew = w60 at HO_241000 HO_246000 BK223 BK224 BK240 BK245 HB hHeld ⊢
          refine take_ (i := 0) (N := some 40) (v := ?_) (a' := ?_) #[true, false, false, false, false] rfl rfl (by kernel_rfl) (fun _ _ _ h => h) (Or.inl ⟨by rfl, ?_⟩) hHeld ?_ ?_
          rotate_left
          ·rintro w' ⟨s0, s1, s2, s3⟩
           go_simp
           with_reducible rfl
          rotate_left
          ·simp only [Act.put, List.setIfInBounds_toArray, List.set_cons_zero, List.set_cons_succ, i64_w, i32_w]
           rfl
          refine take_ (i := 1) (N := some 41) (v := ?_) (a' := ?_) #[true, true, false, false, false] rfl rfl (by kernel_rfl) (fun _ _ _ h => h) (Or.inl ⟨by rfl, ?_⟩) hHeld ?_ ?_
          rotate_left
          ·rintro w' ⟨s0, s1, s2, s3⟩
           go_simp
           with_reducible rfl
          rotate_left
          ·simp only [Act.put, List.setIfInBounds_toArray, List.set_cons_zero, List.set_cons_succ, i64_w, i32_w]
           rfl
          refine one_ (i := 2) (N := some 42) #[true, true, true, false, false] rfl rfl (by kernel_rfl) (by decide) (fun K hK => ?_)
          refine gr_ 42 Try.func35 (laws_toTab.calls kj50 _ _ l1_0 a1_1 t252 t255 _ (kC HR1_0) HC1_0.out A57.out) ?_
          rintro e w61 ⟨v253, rfl, ho0, hb⟩
          refine ⟨_, rfl, ?_⟩
          have HO254 := Aside0.mk (Kd.S_lower (Kd.S_new' (Kd.S_new' ho0 (Kd.S_lt (by (with_reducible repeat (first | apply Kd.S_alloc | apply Kd.S_drewN | apply Kd.S_drew)); exact HO_241000.out))) (Kd.S_lt (by (with_reducible repeat (first | apply Kd.S_alloc | apply Kd.S_drewN | apply Kd.S_drew)); exact HO_246000.out))) (below_size oB))
          replace HO_241000 := Aside0.mk (Kd.S_elder' (by (with_reducible repeat (first | apply Kd.S_alloc | apply Kd.S_drewN | apply Kd.S_drew)); exact HO_241000.out) (Kd.S_base ho0) hb)
          replace HO_246000 := Aside0.mk (Kd.S_elder' (by (with_reducible repeat (first | apply Kd.S_alloc | apply Kd.S_drewN | apply Kd.S_drew)); exact HO_246000.out) (Kd.S_base ho0) hb)
          replace BK223 := kb_ BK223 hb
          replace BK224 := kb_ BK224 hb
          replace BK240 := kb_ BK240 hb
          replace BK245 := kb_ BK245 hb
          replace HB := Aside0.mk (below_step oB hb)
          obtain ⟨Ao62, co62, eo62⟩ := Kd.S_slice HO254.out
          (first | subst eo62 | (injection eo62 with f1_ f2_ f3_; have f4_ := f1_.symm; have f5_ := f3_.symm; clear f1_ f2_ f3_; subst f4_; subst f5_))
          refine hK.out _ _ oH (fun hHeld => ?_)
          clear hK K
          refine norm_ (a' := ?_) ?_ ?_
          rotate_left
          ·show Act.put _ (some 42) _ = _
           simp only [Act.put, List.setIfInBounds_toArray, List.set_cons_zero, List.set_cons_succ, i64_w, i32_w]
           rfl
          refine one_ (i := 3) (N := some 43) #[true, true, true, true, false] rfl rfl (by kernel_rfl) (by decide) (fun K hK => ?_)
          refine gr_ 43 Try.func25 (laws_eqTab.calls kj50 _ _ t241 t244 _ _ t252 t255 true _ ?side1 ?side2 ?side3 ?side4 A58.out) ?_
          (case side1 => repeat (first | exact (Kd.S_reads' HO_246000.out).2.2 | (with_reducible refine Kd.C_alloc ?_ _) | (with_reducible refine Kd.C_drewN ?_ _) | (with_reducible refine Kd.C_drew ?_)))
          (case side2 => exact (Kd.S_reads' HO_246000.out).2.1)
          (case side3 => repeat (first | exact (Kd.S_reads' HO254.out).2.2 | (with_reducible refine Kd.C_alloc ?_ _) | (with_reducible refine Kd.C_drewN ?_ _) | (with_reducible refine Kd.C_drew ?_)))
          (case side4 => exact (Kd.S_reads' HO254.out).2.1)
          rintro e w63 ⟨rfl, hb⟩
          refine ⟨_, rfl, ?_⟩
          replace HO_241000 := Aside0.mk (Kd.S_below (by (with_reducible repeat (first | apply Kd.S_alloc | apply Kd.S_drewN | apply Kd.S_drew)); exact HO_241000.out) hb)
          replace HO_246000 := Aside0.mk (Kd.S_below (by (with_reducible repeat (first | apply Kd.S_alloc | apply Kd.S_drewN | apply Kd.S_drew)); exact HO_246000.out) hb)
          replace HO254 := Aside0.mk (Kd.S_below (by (with_reducible repeat (first | apply Kd.S_alloc | apply Kd.S_drewN | apply Kd.S_drew)); exact HO254.out) hb)
          replace BK223 := kb_ BK223 hb
          replace BK224 := kb_ BK224 hb
          replace BK240 := kb_ BK240 hb
          replace BK245 := kb_ BK245 hb
          replace HB := Aside0.mk (below_step oB hb)
          refine hK.out _ _ oH (fun hHeld => ?_)
          clear hK K
          refine norm_ (a' := ?_) ?_ ?_
          rotate_left
          ·show Act.put _ (some 43) _ = _
           simp only [Act.put, List.setIfInBounds_toArray, List.set_cons_zero, List.set_cons_succ, i64_w, i32_w]
           rfl
          refine pure_ (i := 4) (N := some 44) (v := ?_) (a' := ?_) #[true, true, true, true, true] rfl rfl (by kernel_rfl) (fun _ _ _ h => h) (Or.inl ⟨by rfl, ?_⟩) ?_ ?_
          rotate_left
          ·intro w'
           go_simp
           with_reducible rfl
          rotate_left
          ·simp only [Act.put, List.setIfInBounds_toArray, List.set_cons_zero, List.set_cons_succ, i64_w, i32_w]
           rfl
          refine done_ (by kernel_rfl) ?_
          try go_wp2
          go_ret
          exact ⟨oE, oB⟩
         ·obtain rfl := Option.some.inj H
          try go_wp2
          replace HO_241000 := Aside0.mk (Kd.S_drew HO_241000.out)
          replace HO_246000 := Aside0.mk (Kd.S_drew HO_246000.out)
          replace BK223 := Aside0.mk (blk_drew BK223.out)
          replace BK224 := Aside0.mk (blk_drew BK224.out)
          replace BK240 := Aside0.mk (blk_drew BK240.out)
          replace BK245 := Aside0.mk (blk_drew BK245.out)
          replace HB := Aside0.mk (below_drew1 HB.out)
          refine start_ (n := 5) (S := fun w' => w'.cell? ⟨gb245, 0, none⟩ = some (.slice Ao41 t241.length co41) ∧ w'.cell? ⟨gb245, 1, none⟩ = some (.int .i64 t244) ∧ w'.cell? ⟨gb224, 0, none⟩ = some (.slice A1_0 l1_0.length c1_0) ∧ w'.cell? ⟨gb224, 1, none⟩ = some (.int .i64 a1_1)) (ds := []) #[false, false, false, false, false] (by kernel_rfl) rfl rfl oH (fun hHeld => ?_)
          generalize wc.drew = w64 at HO_241000 HO_246000 BK223 BK224 BK240 BK245 HB hHeld ⊢
          refine take_ (i := 0) (N := some 40) (v := ?_) (a' := ?_) #[true, false, false, false, false] rfl rfl (by kernel_rfl) (fun _ _ _ h => h) (Or.inl ⟨by rfl, ?_⟩) hHeld ?_ ?_
          rotate_left
          ·rintro w' ⟨s0, s1, s2, s3⟩
           go_simp
           with_reducible rfl
          rotate_left
          ·simp only [Act.put, List.setIfInBounds_toArray, List.set_cons_zero, List.set_cons_succ, i64_w, i32_w]
           rfl
          refine take_ (i := 1) (N := some 41) (v := ?_) (a' := ?_) #[true, true, false, false, false] rfl rfl (by kernel_rfl) (fun _ _ _ h => h) (Or.inl ⟨by rfl, ?_⟩) hHeld ?_ ?_
          rotate_left
          ·rintro w' ⟨s0, s1, s2, s3⟩
           go_simp
           with_reducible rfl
          rotate_left
          ·simp only [Act.put, List.setIfInBounds_toArray, List.set_cons_zero, List.set_cons_succ, i64_w, i32_w]
           rfl
          refine one_ (i := 2) (N := some 42) #[true, true, true, false, false] rfl rfl (by kernel_rfl) (by decide) (fun K hK => ?_)
          refine gr_ 42 Try.func35 (laws_toTab.calls kj50 _ _ l1_0 a1_1 t252 t255 _ (kC HR1_0) HC1_0.out A57.out) ?_
          rintro e w65 ⟨v253, rfl, ho0, hb⟩
          refine ⟨_, rfl, ?_⟩
          have HO254 := Aside0.mk (Kd.S_lower (Kd.S_new' (Kd.S_new' ho0 (Kd.S_lt (by (with_reducible repeat (first | apply Kd.S_alloc | apply Kd.S_drewN | apply Kd.S_drew)); exact HO_241000.out))) (Kd.S_lt (by (with_reducible repeat (first | apply Kd.S_alloc | apply Kd.S_drewN | apply Kd.S_drew)); exact HO_246000.out))) (below_size oB))
          replace HO_241000 := Aside0.mk (Kd.S_elder' (by (with_reducible repeat (first | apply Kd.S_alloc | apply Kd.S_drewN | apply Kd.S_drew)); exact HO_241000.out) (Kd.S_base ho0) hb)
          replace HO_246000 := Aside0.mk (Kd.S_elder' (by (with_reducible repeat (first | apply Kd.S_alloc | apply Kd.S_drewN | apply Kd.S_drew)); exact HO_246000.out) (Kd.S_base ho0) hb)
          replace BK223 := kb_ BK223 hb
          replace BK224 := kb_ BK224 hb
          replace BK240 := kb_ BK240 hb
          replace BK245 := kb_ BK245 hb
          replace HB := Aside0.mk (below_step oB hb)
          obtain ⟨Ao66, co66, eo66⟩ := Kd.S_slice HO254.out
          (first | subst eo66 | (injection eo66 with f1_ f2_ f3_; have f4_ := f1_.symm; have f5_ := f3_.symm; clear f1_ f2_ f3_; subst f4_; subst f5_))
          refine hK.out _ _ oH (fun hHeld => ?_)
          clear hK K
          refine norm_ (a' := ?_) ?_ ?_
          rotate_left
          ·show Act.put _ (some 42) _ = _
           simp only [Act.put, List.setIfInBounds_toArray, List.set_cons_zero, List.set_cons_succ, i64_w, i32_w]
           rfl
          refine one_ (i := 3) (N := some 43) #[true, true, true, true, false] rfl rfl (by kernel_rfl) (by decide) (fun K hK => ?_)
          refine gr_ 43 Try.func25 (laws_eqTab.calls kj50 _ _ t241 t244 _ _ t252 t255 false _ ?side1 ?side2 ?side3 ?side4 A58.out) ?_
          (case side1 => repeat (first | exact (Kd.S_reads' HO_246000.out).2.2 | (with_reducible refine Kd.C_alloc ?_ _) | (with_reducible refine Kd.C_drewN ?_ _) | (with_reducible refine Kd.C_drew ?_)))
          (case side2 => exact (Kd.S_reads' HO_246000.out).2.1)
          (case side3 => repeat (first | exact (Kd.S_reads' HO254.out).2.2 | (with_reducible refine Kd.C_alloc ?_ _) | (with_reducible refine Kd.C_drewN ?_ _) | (with_reducible refine Kd.C_drew ?_)))
          (case side4 => exact (Kd.S_reads' HO254.out).2.1)
          rintro e w67 ⟨rfl, hb⟩
          refine ⟨_, rfl, ?_⟩
          replace HO_241000 := Aside0.mk (Kd.S_below (by (with_reducible repeat (first | apply Kd.S_alloc | apply Kd.S_drewN | apply Kd.S_drew)); exact HO_241000.out) hb)
          replace HO_246000 := Aside0.mk (Kd.S_below (by (with_reducible repeat (first | apply Kd.S_alloc | apply Kd.S_drewN | apply Kd.S_drew)); exact HO_246000.out) hb)
          replace HO254 := Aside0.mk (Kd.S_below (by (with_reducible repeat (first | apply Kd.S_alloc | apply Kd.S_drewN | apply Kd.S_drew)); exact HO254.out) hb)
          replace BK223 := kb_ BK223 hb
          replace BK224 := kb_ BK224 hb
          replace BK240 := kb_ BK240 hb
          replace BK245 := kb_ BK245 hb
          replace HB := Aside0.mk (below_step oB hb)
          refine hK.out _ _ oH (fun hHeld => ?_)
          clear hK K
          refine norm_ (a' := ?_) ?_ ?_
          rotate_left
          ·show Act.put _ (some 43) _ = _
           simp only [Act.put, List.setIfInBounds_toArray, List.set_cons_zero, List.set_cons_succ, i64_w, i32_w]
           rfl
          refine pure_ (i := 4) (N := some 44) (v := ?_) (a' := ?_) #[true, true, true, true, true] rfl rfl (by kernel_rfl) (fun _ _ _ h => h) (Or.inl ⟨by rfl, ?_⟩) ?_ ?_
          rotate_left
          ·intro w'
           go_simp
           with_reducible rfl
          rotate_left
          ·simp only [Act.put, List.setIfInBounds_toArray, List.set_cons_zero, List.set_cons_succ, i64_w, i32_w]
           rfl
          refine done_ (by kernel_rfl) ?_
          try go_wp2
          go_ret
          exact ⟨oE, oB⟩

/-! ### spec_TabNew: function 23 -/
def spec_TabNew.f  : Option ((List (S45)) × Int) := some ((([(⟨1, 2, 0, ([] : List Int), ([] : List (S83)), ([] : List (S85))⟩ : S45)] : List (S45))), 2)
set_option maxHeartbeats 8000000 in
set_option maxRecDepth 100000 in
theorem spec_TabNew.calls  (r1 : List (S45)) (r2 : Int) (w : World) (h : spec_TabNew.f  = some (r1, r2)) :
  Calls Try.prog 23 #[] w fun e w' => ∃ v0_ : Value, e = .returned (.agg #[v0_, .int .i64 r2]) ∧ Kd.S k45 45 w' w.heap.size (fun _ => True) v0_ r1 ∧ Below w.heap.size w w' := by
 have hu30 := Try.underlying30
 have hu45 := Try.underlying45
 have HB := Aside0.mk (Below.refl w.heap.size w)
 unfold spec_TabNew.f at h
 have H := h
 clear h
 obtain ⟨y258, hy258⟩ : ∃ y_ : List (S45), y_ = (([(⟨1, 2, 0, ([] : List Int), ([] : List (S83)), ([] : List (S85))⟩ : S45)] : List (S45))) := ⟨_, rfl⟩
 replace H : (some (y258, 2)) = some (r1, r2) := by first | (rw [hy258]; with_reducible exact H) | (have H2_ := (Option.bind_some _ _).symm.trans H; rw [hy258]; with_reducible exact H2_) | (have H2_ := (Option.bind_some _ _).symm.trans H; with_reducible exact H2_) | with_reducible exact H | (rw [hy258]; exact H) | exact H
 have Ny258 := Aside0.mk hy258
 clear hy258
 simp only [Option.some.injEq, Prod.mk.injEq] at H
 obtain ⟨rfl, rfl⟩ := H
 go_enter Try.func23, Try.ntmps23
 go_wp2_with (first | ((with_reducible refine gate_dst (N := 0) rfl ?_); refine bx_ 0 #[.slice none 0 0, .int .i64 0] 30 ?_; intro gb257 hg w1 hbox hb; have BK257 := Aside0.mk (hbox); have GW257 := gs_ hg; have GE257 := gs_ hg; replace HB := Aside0.mk (below_step oB hb); clear hb hbox hg) | ((with_reducible refine gate_dst (N := 2) rfl ?_); refine Kd.S_lit k45 _ 45 ?hg (N := 2) ?hd (xs := ([(⟨1, 2, 0, ([] : List Int), ([] : List (S83)), ([] : List (S85))⟩ : S45)] : List (S45))) (inner := [.int .i64 1, .int .i64 2, .int .i64 0, .slice none 0 0, .slice none 0 0, .slice none 0 0]) (ok := fun _ => True) (okp := fun _ => True) ?hr ?hp (fun _ hk => hk) trivial (Below.refl _ _) (Nat.le_refl _) (by simp) ?_; (case hd => rfl); (case hg => rfl); (case hr => first | (go_simp; done) | (go_simp; rfl)); (case hp => exact (Reps.c6 (show Kd.M k45 _ _ _ (⟨1, 2, 0, ([] : List Int), ([] : List (S83)), ([] : List (S85))⟩ : S45) [.int .i64 1, .int .i64 2, .int .i64 0, .slice none 0 0, .slice none 0 0, .slice none 0 0] from (k45_mkM _ _ _ (⟨1, 2, 0, ([] : List Int), ([] : List (S83)), ([] : List (S85))⟩ : S45) (Kd.R_nil _ _ _ _ _) (Kd.R_nil _ _ _ _ _) (Kd.R_nil _ _ _ _ _))) (Reps.none _ _))); intro v259 w2 ho3 hb hg_ hnew_; clear hg_ hnew_; (first | rw [← Ny258.out] at ho3 | (simp only [Int.reduceToNat] at ho3; rw [← Ny258.out] at ho3)); have HO260 := Aside0.mk (Kd.S_lower ho3 (below_size oB)); replace BK257 := kb_ BK257 hb; replace HB := Aside0.mk (below_step oB hb); clear hb ho3; obtain ⟨Ao4, co4, eo4⟩ := Kd.S_slice HO260.out; subst eo4; obtain ⟨⟨_, _⟩, _, _⟩ := z2 BK257))
 refine bodyPost_ret (results_cell_row rfl _ _ gb257 30 #[.slice Ao4 y258.length co4, .int .i64 2] (0, 0) _ rfl (by (with_reducible repeat (first | refine blk_drewN ?_ _ | refine blk_drew ?_ | refine blk_alloc ?_ _)); refine blk_put (cs := #[.slice Ao4 y258.length co4, .int .i64 0]) ?_ 1 _ rfl; (with_reducible repeat (first | refine blk_drewN ?_ _ | refine blk_drew ?_ | refine blk_alloc ?_ _)); refine blk_put (cs := #[.slice none 0 0, .int .i64 0]) ?_ 0 _ rfl; (with_reducible repeat (first | refine blk_drewN ?_ _ | refine blk_drew ?_ | refine blk_alloc ?_ _)); exact BK257.out) Try.underlying30 rfl (by kernel_rfl)) rfl ?_
 exact ⟨_, oE, by (with_reducible repeat (first | apply Kd.S_alloc | apply Kd.S_drewN | apply Kd.S_drew)); exact Kd.S_mono (Kd.S_far (p := ⟨gb257, 1, none⟩) (Kd.S_far (p := ⟨gb257, 0, none⟩) (Kd.S_types HO260.out BK257.out (by decide)) (fun _ hk => hk.2) (.slice Ao4 y258.length co4)) (fun _ hk => hk.2) (.int .i64 2)) (fun _ hk => trivial), oB⟩

/-! ### impl_TabNew: function 24 -/
def impl_TabNew.f  : Option ((List (S45)) × Int) := some ((([(⟨1, 2, 0, ([] : List Int), ([] : List (S83)), ([] : List (S85))⟩ : S45)] : List (S45))), 2)
set_option maxHeartbeats 8000000 in
set_option maxRecDepth 100000 in
theorem impl_TabNew.calls  (r1 : List (S45)) (r2 : Int) (w : World) (h : impl_TabNew.f  = some (r1, r2)) :
  Calls Try.prog 24 #[] w fun e w' => ∃ v0_ : Value, e = .returned (.agg #[v0_, .int .i64 r2]) ∧ Kd.S k45 45 w' w.heap.size (fun _ => True) v0_ r1 ∧ Below w.heap.size w w' := by
 have hu30 := Try.underlying30
 have hu45 := Try.underlying45
 have HB := Aside0.mk (Below.refl w.heap.size w)
 unfold impl_TabNew.f at h
 have H := h
 clear h
 obtain ⟨y262, hy262⟩ : ∃ y_ : List (S45), y_ = (([(⟨1, 2, 0, ([] : List Int), ([] : List (S83)), ([] : List (S85))⟩ : S45)] : List (S45))) := ⟨_, rfl⟩
 replace H : (some (y262, 2)) = some (r1, r2) := by first | (rw [hy262]; with_reducible exact H) | (have H2_ := (Option.bind_some _ _).symm.trans H; rw [hy262]; with_reducible exact H2_) | (have H2_ := (Option.bind_some _ _).symm.trans H; with_reducible exact H2_) | with_reducible exact H | (rw [hy262]; exact H) | exact H
 have Ny262 := Aside0.mk hy262
 clear hy262
 simp only [Option.some.injEq, Prod.mk.injEq] at H
 obtain ⟨rfl, rfl⟩ := H
 go_enter Try.func24, Try.ntmps24
 go_wp2_with (first | ((with_reducible refine gate_dst (N := 0) rfl ?_); refine bx_ 0 #[.slice none 0 0, .int .i64 0] 30 ?_; intro gb261 hg w1 hbox hb; have BK261 := Aside0.mk (hbox); have GW261 := gs_ hg; have GE261 := gs_ hg; replace HB := Aside0.mk (below_step oB hb); clear hb hbox hg) | ((with_reducible refine gate_dst (N := 2) rfl ?_); refine Kd.S_lit k45 _ 45 ?hg (N := 2) ?hd (xs := ([(⟨1, 2, 0, ([] : List Int), ([] : List (S83)), ([] : List (S85))⟩ : S45)] : List (S45))) (inner := [.int .i64 1, .int .i64 2, .int .i64 0, .slice none 0 0, .slice none 0 0, .slice none 0 0]) (ok := fun _ => True) (okp := fun _ => True) ?hr ?hp (fun _ hk => hk) trivial (Below.refl _ _) (Nat.le_refl _) (by simp) ?_; (case hd => rfl); (case hg => rfl); (case hr => first | (go_simp; done) | (go_simp; rfl)); (case hp => exact (Reps.c6 (show Kd.M k45 _ _ _ (⟨1, 2, 0, ([] : List Int), ([] : List (S83)), ([] : List (S85))⟩ : S45) [.int .i64 1, .int .i64 2, .int .i64 0, .slice none 0 0, .slice none 0 0, .slice none 0 0] from (k45_mkM _ _ _ (⟨1, 2, 0, ([] : List Int), ([] : List (S83)), ([] : List (S85))⟩ : S45) (Kd.R_nil _ _ _ _ _) (Kd.R_nil _ _ _ _ _) (Kd.R_nil _ _ _ _ _))) (Reps.none _ _))); intro v263 w2 ho3 hb hg_ hnew_; clear hg_ hnew_; (first | rw [← Ny262.out] at ho3 | (simp only [Int.reduceToNat] at ho3; rw [← Ny262.out] at ho3)); have HO264 := Aside0.mk (Kd.S_lower ho3 (below_size oB)); replace BK261 := kb_ BK261 hb; replace HB := Aside0.mk (below_step oB hb); clear hb ho3; obtain ⟨Ao4, co4, eo4⟩ := Kd.S_slice HO264.out; subst eo4; obtain ⟨⟨_, _⟩, _, _⟩ := z2 BK261))
 refine bodyPost_ret (results_cell_row rfl _ _ gb261 30 #[.slice Ao4 y262.length co4, .int .i64 2] (0, 0) _ rfl (by (with_reducible repeat (first | refine blk_drewN ?_ _ | refine blk_drew ?_ | refine blk_alloc ?_ _)); refine blk_put (cs := #[.slice Ao4 y262.length co4, .int .i64 0]) ?_ 1 _ rfl; (with_reducible repeat (first | refine blk_drewN ?_ _ | refine blk_drew ?_ | refine blk_alloc ?_ _)); refine blk_put (cs := #[.slice none 0 0, .int .i64 0]) ?_ 0 _ rfl; (with_reducible repeat (first | refine blk_drewN ?_ _ | refine blk_drew ?_ | refine blk_alloc ?_ _)); exact BK261.out) Try.underlying30 rfl (by kernel_rfl)) rfl ?_
 exact ⟨_, oE, by (with_reducible repeat (first | apply Kd.S_alloc | apply Kd.S_drewN | apply Kd.S_drew)); exact Kd.S_mono (Kd.S_far (p := ⟨gb261, 1, none⟩) (Kd.S_far (p := ⟨gb261, 0, none⟩) (Kd.S_types HO264.out BK261.out (by decide)) (fun _ hk => hk.2) (.slice Ao4 y262.length co4)) (fun _ hk => hk.2) (.int .i64 2)) (fun _ hk => trivial), oB⟩

/-! ### laws_markByteS: function 49 -/
def laws_markByteS.l0 : Nat → List Int → Int → Int → Option (Int × List Int)
 | 0, _, _, _ => none
 | k + 1, x0, x1, x5 => if x5 < (x0.length : Int) then (if 0 ≤ x5 then (laws_markByteS.l0 k (x0.set (x5 : Int).toNat ((x1) % 256)) (wrap64 (x1 + 1)) (wrap64 (x5 + 1))) else (none)) else (some (x1, x0))
def laws_markByteS.f (k : Nat) (l0 : List Int) (a1 : Int) : Option (Int × List Int) := laws_markByteS.l0 k l0 a1 0
set_option maxHeartbeats 8000000 in
set_option maxRecDepth 100000 in
theorem laws_markByteS.calls (k : Nat) (P0_ : Nat → Prop) (u9000_ : Value) (l0 : List Int) (a1 : Int) (r1 : Int) (r2 : List Int) (w0 w : World) (hB : Below w0.heap.size w0 w) (ho0 : Kd.R (Kd.int .u8) 5 w w0.heap.size P0_ u9000_ l0) (h : laws_markByteS.f k l0 a1 = some (r1, r2)) :
  Calls Try.prog 49 #[u9000_, .int .i64 a1] w fun e w' => e = .returned (.int .i64 r1) ∧ Kd.R (Kd.int .u8) 5 w' w0.heap.size (fun k_ => (P0_ k_ ∨ w.heap.size ≤ k_)) u9000_ r2 ∧ Below w0.heap.size w0 w' ∧ Kept w w' (fun k_ => P0_ k_) := by
 have HO0 := Aside0.mk (show Kd.R (Kd.int .u8) 5 w w0.heap.size (fun k_ => (P0_ k_ ∨ w.heap.size ≤ k_)) u9000_ l0 from Kd.R_mono ho0 (fun k_ hk => (.inl hk)))
 have HK := Aside0.mk (Kept.refl w (fun k_ => P0_ k_))
 have HW0 := Aside0.mk hB.size
 have HB := Aside0.mk hB
 clear hB
 unfold laws_markByteS.f at h
 have H := h
 clear h
 have H' := Aside0.mk H
 clear H
 go_enter Try.func49, Try.ntmps49
 go_wp2
 go_loopg [1, 5] k (fun kq v1 v5 w' => ∃ (x0_1 : List Int) (x1_1 : Int) (x5_1 : Int), v1 = .int .i64 x1_1 ∧ v5 = .int .i64 x5_1 ∧ Aside0 (laws_markByteS.l0 kq x0_1 x1_1 x5_1 = some (r1, r2)) ∧ Aside0 (kq ≤ k) ∧ Aside0 (Kd.R (Kd.int .u8) 5 w' w0.heap.size (fun k_ => (P0_ k_ ∨ w.heap.size ≤ k_)) u9000_ x0_1) ∧ Aside0 (Kept w w' (fun k_ => P0_ k_)) ∧ Aside0 (Below w0.heap.size w0 w'))
 case atStart => exact ⟨(l0), (a1), (0), oS, oS, H', ⟨Nat.le_refl _⟩, ⟨oR HO0⟩, ⟨oK⟩, ⟨oB⟩⟩
 case round =>
  clear H'
  obtain ⟨x0_1, x1_1, x5_1, rfl, rfl, HA, HK1, HO_0, HK, HB⟩ := hrel
  cases gk with
  | zero => exact absurd HA.out (by simp [laws_markByteS.l0])
  | succ k1 =>
   have H := HA.out
   clear HA
   simp only [laws_markByteS.l0] at H
   replace H := itD H
   rcases H with ⟨c3b0, H⟩ | ⟨c3b0, H⟩
   ·replace H := itD H
    rcases H with ⟨c4b0, H⟩ | ⟨c4b0, H⟩
    ·obtain ⟨y265, hy265⟩ : ∃ y_ : List Int, y_ = (x0_1.set (x5_1 : Int).toNat ((x1_1) % 256)) := ⟨_, rfl⟩
     replace H : (laws_markByteS.l0 k1 y265 (wrap64 (x1_1 + 1)) (wrap64 (x5_1 + 1))) = some (r1, r2) := by first | (rw [hy265]; with_reducible exact H) | (have H2_ := (Option.bind_some _ _).symm.trans H; rw [hy265]; with_reducible exact H2_) | (have H2_ := (Option.bind_some _ _).symm.trans H; with_reducible exact H2_) | with_reducible exact H | (rw [hy265]; exact H) | exact H
     have Ny265 := Aside0.mk hy265
     clear hy265
     have H' := Aside0.mk H
     clear H
     obtain ⟨Ao6, co6, eo6⟩ := Kd.R_slice HO_0.out
     subst eo6
     have p5 : 0 ≤ (x5_1 : Int) := oa
     have q5 : (x5_1 : Int) < ((x0_1.length : Int) : Int) := oa
     obtain ⟨go5, co5, eo5, gb5, gl5, cl5, HG5⟩ := Kd.R_form HO_0.out (by omega)
     (first | cases eo5 | (injection eo5 with ea_ en_ ec_; (first | subst ea_ | (injection ea_ with ea_; subst ea_)); subst ec_; clear en_))
     have GB5 := Aside0.mk gb5
     have GG5 := Aside0.mk HG5
     clear gb5 gl5 HG5
     have HMgo5 := Aside0.mk (show (P0_ go5 ∨ w.heap.size ≤ go5) from (HO_0.out.1 _ rfl))
     obtain ⟨hx5_0, hf5_0⟩ := Kd.R_celln 0 HO_0.out (x5_1 : Int) p5 q5
     replace p5 := eq_true p5
     replace q5 := eq_true q5
     have HP7 := Kd.R_putg HO_0.out (x5_1 : Int) ((x1_1) % 256)
     go_wp2_with (first | ((with_reducible refine gate_store (t := 5) (p := 16) rfl ?_); refine store_event (t := 5) (p := 16) (v := ?vo_w8) (w1 := (wr.setCell ⟨go5, (x5_1 : Int).toNat, none⟩ (.int .u8 ((x1_1) % 256)))) ?hg ?ho ?hn ?hr ?_; (case ho => rfl); (case hg => rfl); (case hn => rfl); (case hr => first | (go_simp; done) | (go_simp; rfl)); intro w8 hw; have hg : wr.grownBy w8 (some go5) := (by rw [hw]; exact HP7.2); have hp_ : Kd.R (Kd.int .u8) 5 w8 w0.heap.size (fun k_ => (P0_ k_ ∨ w.heap.size ≤ k_)) (.slice (some ⟨go5, 0, none⟩) x0_1.length co6) y265 := (by rw [hw, Ny265.out]; exact HP7.1); clear HP7; replace HO_0 := Aside0.mk (hp_); replace HK := Aside0.mk (Kept.of_grown (S := (fun k_ => P0_ k_)) hg oK (fun k_ e_ => (HO_0.out.1 k_ e_))); replace HB := Aside0.mk ((by rw [hw]; exact below_set (HB.out) GB5.out : Below w0.heap.size w0 w8)); clear hg hw hp_))
     go_roundg k1
     case measure => have := HK1.out; omega
     case rel => exact ⟨(y265), (wrap64 (x1_1 + 1)), (wrap64 (x5_1 + 1)), oS, oS, H', ⟨by have := HK1.out; omega⟩, ⟨oR HO_0⟩, ⟨oK⟩, ⟨oB⟩⟩
    ·cases H
   ·simp only [Option.some.injEq, Prod.mk.injEq] at H
    obtain ⟨rfl, rfl⟩ := H
    obtain ⟨Ao9, co9, eo9⟩ := Kd.R_slice HO_0.out
    subst eo9
    go_wp2
    go_ret
    exact ⟨oE, oR HO_0, oB, oK⟩

/-! ### laws_markText: function 132 -/
def laws_markText.l0 : Nat → Int → ByteArray → Option (ByteArray)
 | 0, _, _ => none
 | k + 1, x0, x3 => if x0 > 0 then ((some (([(wrap64 (48 + (Int.tmod x0 10))) % 256] : List Int) : List Int)).bind fun y266 => (if (strOfNums y266).size + x3.size ≤ 9223372036854775807 then (laws_markText.l0 k (wrap64 (Int.tdiv x0 10)) ((strOfNums y266) ++ x3)) else (none))) else (if 1 + x3.size ≤ 9223372036854775807 then (some ((⟨#[109]⟩ : ByteArray) ++ x3)) else (none))
def laws_markText.f (k : Nat) (a0 : Int) : Option (ByteArray) := if a0 ≤ 0 then (some (⟨#[109, 48]⟩ : ByteArray)) else (laws_markText.l0 k a0 (⟨#[]⟩ : ByteArray))
set_option maxHeartbeats 8000000 in
set_option maxRecDepth 100000 in
theorem laws_markText.calls (k : Nat) (a0 : Int) (r : ByteArray) (w : World) (h : laws_markText.f k a0 = some r) :
  Calls Try.prog 132 #[.int .i64 a0] w fun e w' => e = .returned (.string r) ∧ Below w.heap.size w w' := by
 have HB := Aside0.mk (Below.refl w.heap.size w)
 unfold laws_markText.f at h
 have H := h
 clear h
 replace H := itD H
 rcases H with ⟨c2b0, H⟩ | ⟨c2b0, H⟩
 ·obtain rfl := Option.some.inj H
  go_enter Try.func132, Try.ntmps132
  go_wp2
  go_ret
  exact ⟨oE, oB⟩
 ·have H' := Aside0.mk H
  clear H
  go_enter Try.func132, Try.ntmps132
  go_wp2
  go_loopg [0, 3] k (fun kq v0 v3 w' => ∃ (x0_1 : Int) (x3_1 : ByteArray), v0 = .int .i64 x0_1 ∧ v3 = .string x3_1 ∧ Aside0 (laws_markText.l0 kq x0_1 x3_1 = some r) ∧ Aside0 (kq ≤ k) ∧ Aside0 (Below w.heap.size w w'))
  case atStart => exact ⟨(a0), ((⟨#[]⟩ : ByteArray)), oS, oS, H', ⟨Nat.le_refl _⟩, ⟨oB⟩⟩
  case round =>
   clear H'
   try clear c2b0
   obtain ⟨x0_1, x3_1, rfl, rfl, HA, HK1, HB⟩ := hrel
   cases gk with
   | zero => exact absurd HA.out (by simp [laws_markText.l0])
   | succ k1 =>
    have H := HA.out
    clear HA
    simp only [laws_markText.l0] at H
    replace H := itG H
    rcases H with ⟨c3b0, H⟩ | ⟨c3b0, H⟩
    ·obtain ⟨y266, hy266⟩ : ∃ y_ : List Int, y_ = (([(wrap64 (48 + (Int.tmod x0_1 10))) % 256] : List Int)) := ⟨_, rfl⟩
     replace H : (if (strOfNums y266).size + x3_1.size ≤ 9223372036854775807 then (laws_markText.l0 k1 (wrap64 (Int.tdiv x0_1 10)) ((strOfNums y266) ++ x3_1)) else (none)) = some r := by first | (rw [hy266]; with_reducible exact H) | (have H2_ := (Option.bind_some _ _).symm.trans H; rw [hy266]; with_reducible exact H2_) | (have H2_ := (Option.bind_some _ _).symm.trans H; with_reducible exact H2_) | with_reducible exact H | (rw [hy266]; exact H) | exact H
     have Ny266 := Aside0.mk hy266
     clear hy266
     by_cases c4 : (strOfNums y266).size + x3_1.size ≤ 9223372036854775807
     ·rw [if_pos c4] at H
      have c4b0 := eq_true c4
      have c4b1 : decide ((strOfNums y266).size + x3_1.size ≤ 9223372036854775807) = true := decide_eq_true c4
      try have c4b2 : (9223372036854775807 < (strOfNums y266).size + x3_1.size) = False := eq_false (Nat.not_lt.2 c4)
      have H' := Aside0.mk H
      clear H
      go_wp2_with (first | ((with_reducible refine gate_dst (N := 12) rfl ?_); refine Kd.R_lit (Kd.int .u8) _ 5 ?hg (N := 12) ?hd (xs := ([(wrap64 (48 + (Int.tmod x0_1 10))) % 256] : List Int)) (inner := [.int .u8 ((wrap64 (48 + (Int.tmod x0_1 10))) % 256)]) (ok := fun _ => True) (okp := fun _ => True) ?hr ?hp (fun _ hk => hk) trivial (Below.refl _ _) (Nat.le_refl _) (by simp) ?_; (case hd => rfl); (case hg => rfl); (case hr => first | (go_simp; done) | (go_simp; rfl)); (case hp => exact (Reps.one (show Kd.M (Kd.int .u8) _ _ _ ((wrap64 (48 + (Int.tmod x0_1 10))) % 256) [.int .u8 ((wrap64 (48 + (Int.tmod x0_1 10))) % 256)] from rfl) (Reps.none _ _))); intro v267 w5 ho6 hb hg_ hnew_; clear hg_ hnew_; (first | rw [← Ny266.out] at ho6 | (simp only [Int.reduceToNat] at ho6; rw [← Ny266.out] at ho6)); have HO268 := Aside0.mk (Kd.R_lower ho6 (below_size oB)); replace HB := Aside0.mk (below_step oB hb); clear hb ho6; have hcv7 := own_string (P := Try.prog) Try.underlying35 Try.underlying5 Try.underlying9 (Kd.own_of_R HO268.out)))
      go_roundg k1
      case measure => have := HK1.out; omega
      case rel => exact ⟨(wrap64 (Int.tdiv x0_1 10)), ((strOfNums y266) ++ x3_1), oS, oS, H', ⟨by have := HK1.out; omega⟩, ⟨oB⟩⟩
     ·rw [if_neg c4] at H
      exact absurd H (by simp)
    ·by_cases c8 : 1 + x3_1.size ≤ 9223372036854775807
     ·rw [if_pos c8] at H
      have c8b0 := eq_true c8
      have c8b1 : decide (1 + x3_1.size ≤ 9223372036854775807) = true := decide_eq_true c8
      try have c8b2 : (9223372036854775807 < 1 + x3_1.size) = False := eq_false (Nat.not_lt.2 c8)
      obtain rfl := Option.some.inj H
      go_wp2
      go_ret
      exact ⟨oE, oB⟩
     ·rw [if_neg c8] at H
      exact absurd H (by simp)

/-! ### laws_markEntS: function 99 -/
def laws_markEntS.l0 : Nat → List (S83) → Int → Int → Option (Int × (List (S83)))
 | 0, _, _, _ => none
 | k + 1, x0, x1, x5 => if x5 < (x0.length : Int) then ((laws_markText.f k x1).bind fun t269 => (if 0 ≤ x5 then ((some (x0.set (x5 : Int).toNat (⟨t269, (rd_T83 x0 x5).f1⟩ : S83) : List (S83))).bind fun y270 => (laws_markEntS.l0 k (y270.set (x5 : Int).toNat (⟨(rd_T83 y270 x5).f0, wrap64 (x1 + 1)⟩ : S83)) (wrap64 ((wrap64 (x1 + 1)) + 1)) (wrap64 (x5 + 1)))) else (none))) else (some (x1, x0))
def laws_markEntS.f (k : Nat) (l0 : List (S83)) (a1 : Int) : Option (Int × (List (S83))) := laws_markEntS.l0 k l0 a1 0
set_option maxHeartbeats 8000000 in
set_option maxRecDepth 100000 in
theorem laws_markEntS.calls (k : Nat) (P0_ : Nat → Prop) (u9000_ : Value) (l0 : List (S83)) (a1 : Int) (r1 : Int) (r2 : List (S83)) (w0 w : World) (hB : Below w0.heap.size w0 w) (ho0 : Kd.R k83 83 w w0.heap.size P0_ u9000_ l0) (h : laws_markEntS.f k l0 a1 = some (r1, r2)) :
  Calls Try.prog 99 #[u9000_, .int .i64 a1] w fun e w' => e = .returned (.int .i64 r1) ∧ Kd.R k83 83 w' w0.heap.size (fun k_ => (P0_ k_ ∨ w.heap.size ≤ k_)) u9000_ r2 ∧ Below w0.heap.size w0 w' ∧ Kept w w' (fun k_ => P0_ k_) := by
 have HO0 := Aside0.mk (show Kd.R k83 83 w w0.heap.size (fun k_ => (P0_ k_ ∨ w.heap.size ≤ k_)) u9000_ l0 from Kd.R_mono ho0 (fun k_ hk => (.inl hk)))
 have HK := Aside0.mk (Kept.refl w (fun k_ => P0_ k_))
 have HW0 := Aside0.mk hB.size
 have HB := Aside0.mk hB
 clear hB
 unfold laws_markEntS.f at h
 have H := h
 clear h
 have H' := Aside0.mk H
 clear H
 go_enter Try.func99, Try.ntmps99
 go_wp2
 go_loopg [1, 5] k (fun kq v1 v5 w' => ∃ (x0_1 : List (S83)) (x1_1 : Int) (x5_1 : Int), v1 = .int .i64 x1_1 ∧ v5 = .int .i64 x5_1 ∧ Aside0 (laws_markEntS.l0 kq x0_1 x1_1 x5_1 = some (r1, r2)) ∧ Aside0 (kq ≤ k) ∧ Aside0 (Kd.R k83 83 w' w0.heap.size (fun k_ => (P0_ k_ ∨ w.heap.size ≤ k_)) u9000_ x0_1) ∧ Aside0 (Kept w w' (fun k_ => P0_ k_)) ∧ Aside0 (Below w0.heap.size w0 w'))
 case atStart => exact ⟨(l0), (a1), (0), oS, oS, H', ⟨Nat.le_refl _⟩, ⟨oR HO0⟩, ⟨oK⟩, ⟨oB⟩⟩
 case round =>
  clear H'
  obtain ⟨x0_1, x1_1, x5_1, rfl, rfl, HA, HK1, HO_0, HK, HB⟩ := hrel
  cases gk with
  | zero => exact absurd HA.out (by simp [laws_markEntS.l0])
  | succ k1 =>
   have H := HA.out
   clear HA
   simp only [laws_markEntS.l0] at H
   replace H := itD H
   rcases H with ⟨c3b0, H⟩ | ⟨c3b0, H⟩
   ·replace H := bA H
    obtain ⟨t269, A4, H⟩ := H
    try dsimp only at H
    replace H := itD H
    rcases H with ⟨c5b0, H⟩ | ⟨c5b0, H⟩
    ·obtain ⟨y270, hy270⟩ : ∃ y_ : List (S83), y_ = (x0_1.set (x5_1 : Int).toNat (⟨t269, (rd_T83 x0_1 x5_1).f1⟩ : S83)) := ⟨_, rfl⟩
     replace H : (laws_markEntS.l0 k1 (y270.set (x5_1 : Int).toNat (⟨(rd_T83 y270 x5_1).f0, wrap64 (x1_1 + 1)⟩ : S83)) (wrap64 ((wrap64 (x1_1 + 1)) + 1)) (wrap64 (x5_1 + 1))) = some (r1, r2) := by first | (rw [hy270]; with_reducible exact H) | (have H2_ := (Option.bind_some _ _).symm.trans H; rw [hy270]; with_reducible exact H2_) | (have H2_ := (Option.bind_some _ _).symm.trans H; with_reducible exact H2_) | with_reducible exact H | (rw [hy270]; exact H) | exact H
     have Ny270 := Aside0.mk hy270
     clear hy270
     obtain ⟨y271, hy271⟩ : ∃ y_ : List (S83), y_ = (y270.set (x5_1 : Int).toNat (⟨(rd_T83 y270 x5_1).f0, wrap64 (x1_1 + 1)⟩ : S83)) := ⟨_, rfl⟩
     replace H : (laws_markEntS.l0 k1 y271 (wrap64 ((wrap64 (x1_1 + 1)) + 1)) (wrap64 (x5_1 + 1))) = some (r1, r2) := by first | (rw [hy271]; with_reducible exact H) | (have H2_ := (Option.bind_some _ _).symm.trans H; rw [hy271]; with_reducible exact H2_) | (have H2_ := (Option.bind_some _ _).symm.trans H; with_reducible exact H2_) | with_reducible exact H | (rw [hy271]; exact H) | exact H
     have Ny271 := Aside0.mk hy271
     clear hy271
     have H' := Aside0.mk H
     clear H
     obtain ⟨Ao8, co8, eo8⟩ := Kd.R_slice HO_0.out
     subst eo8
     go_wp2_with (first | ((with_reducible refine gate_callee (f := 132) rfl ?_); refine gl_ 15 Try.func132 (laws_markText.calls k1 x1_1 t269 _ A4.out) ?_; rintro e w9 ⟨rfl, hb⟩; refine ⟨_, rfl, ?_⟩; replace HO_0 := kr_ HO_0 hb; replace HK := Aside0.mk (Kept.below (S := (fun k_ => P0_ k_)) oK hb); replace HB := Aside0.mk (below_step oB hb); (try clear hk); have p6 : 0 ≤ (x5_1 : Int) := oa; have q6 : (x5_1 : Int) < ((x0_1.length : Int) : Int) := oa; obtain ⟨go6, co6, eo6, gb6, gl6, cl6, HG6⟩ := Kd.R_form HO_0.out (by omega); (first | cases eo6 | (injection eo6 with ea_ en_ ec_; (first | subst ea_ | (injection ea_ with ea_; subst ea_)); subst ec_; clear en_)); have GB6 := Aside0.mk gb6; have GG6 := Aside0.mk HG6; clear gb6 gl6 HG6; have HMgo6 := Aside0.mk (show (P0_ go6 ∨ w.heap.size ≤ go6) from (HO_0.out.1 _ rfl)); obtain ⟨ce6, hcl6, hM6, hcc6, hfr6⟩ := Kd.R_elem HO_0.out z83 (x5_1 : Int) p6 q6; obtain rfl := k83_openM hM6; have hx6_0 : w9.cell? ⟨go6, (x5_1 : Int).toNat * 2, none⟩ = some (.string ((rd_T83 x0_1 x5_1).f0)) := hcc6 0 _ rfl; have hx6_1 : w9.cell? ⟨go6, (x5_1 : Int).toNat * 2 + 1, none⟩ = some (.int .i64 ((rd_T83 x0_1 x5_1).f1)) := hcc6 1 _ rfl; have hf6_0 : w9.frozen? ⟨go6, (x5_1 : Int).toNat * 2, none⟩ = false := hfr6 0; have hf6_1 : w9.frozen? ⟨go6, (x5_1 : Int).toNat * 2 + 1, none⟩ = false := hfr6 1; clear hcl6 hcc6 hfr6 hM6; replace p6 := eq_true p6; replace q6 := eq_true q6; have HX10 := Aside0.mk (show Kd.R k83 83 w9 w0.heap.size (fun k_ => (P0_ k_ ∨ w.heap.size ≤ k_)) (.slice (some ⟨go6, 0, none⟩) x0_1.length co8) x0_1 from (oR HO_0)); obtain ⟨ce10, hcl10, hM10, hcc10, hfr10⟩ := Kd.R_elem HX10.out z83 (x5_1 : Int) oa (by have h_ : (x5_1 : Int) < ((x0_1.length : Int) : Int) := oa; first | exact h_ | (have e_ := (Kd.R_reads' HO_0.out).1; omega) | simpa using h_); obtain rfl := k83_openM hM10; have HP10 := Kd.R_seg HX10.out (x5_1 : Int) oa (by have h_ : (x5_1 : Int) < ((x0_1.length : Int) : Int) := oa; first | exact h_ | (have e_ := (Kd.R_reads' HO_0.out).1; omega) | simpa using h_) (seg := [.string t269]) (j := 0) hcl10 hcc10 (show 1 ≤ 2 from by decide) (x' := (⟨t269, (rd_T83 x0_1 x5_1).f1⟩ : S83)) (k83_mkM _ _ _ (⟨t269, (rd_T83 x0_1 x5_1).f1⟩ : S83) ) (fun _ hk => hk); have hx10_0 := hcc10 0 _ rfl; (try simp only [show (k83).sz = 2 from rfl, Nat.mul_one, Nat.add_zero] at hx10_0); have hf10_0 := hfr10 0; (try simp only [show (k83).sz = 2 from rfl, Nat.mul_one, Nat.add_zero] at hf10_0); clear hcl10 hcc10 hfr10 hM10) | ((with_reducible refine gate_store (t := 9) (p := 17) rfl ?_); refine store_event (t := 9) (p := 17) (v := ?vo_w11) (w1 := (w9.setCell ⟨go6, (x5_1 : Int).toNat * 2, none⟩ (.string t269))) ?hg ?ho ?hn ?hr ?_; (case ho => rfl); (case hg => rfl); (case hn => rfl); (case hr => first | (go_simp; done) | (go_simp; rfl)); intro w11 hw; have hg : w9.grownBy w11 (some go6) := (by rw [hw]; exact HP10.2); have hp_ : Kd.R k83 83 w11 w0.heap.size (fun k_ => (P0_ k_ ∨ w.heap.size ≤ k_)) (.slice (some ⟨go6, 0, none⟩) x0_1.length co8) y270 := (by rw [hw, Ny270.out]; exact HP10.1); clear HP10; replace HO_0 := Aside0.mk (hp_); replace HK := Aside0.mk (Kept.of_grown (S := (fun k_ => P0_ k_)) hg oK (fun k_ e_ => (HO_0.out.1 k_ e_))); replace HB := Aside0.mk ((by rw [hw]; exact below_set (HB.out) GB6.out : Below w0.heap.size w0 w11)); clear hg hw hp_; have p7 : (0 ≤ (x5_1 : Int)) = True := oT; have q7 : ((x5_1 : Int) < ((x0_1.length : Int) : Int)) = True := oT; obtain ⟨ce7, hcl7, hM7, hcc7, hfr7⟩ := Kd.R_elem HO_0.out z83 (x5_1 : Int) oa oa; obtain rfl := k83_openM hM7; have hx7_0 : w11.cell? ⟨go6, (x5_1 : Int).toNat * 2, none⟩ = some (.string ((rd_T83 y270 x5_1).f0)) := hcc7 0 _ rfl; have hx7_1 : w11.cell? ⟨go6, (x5_1 : Int).toNat * 2 + 1, none⟩ = some (.int .i64 ((rd_T83 y270 x5_1).f1)) := hcc7 1 _ rfl; have hf7_0 : w11.frozen? ⟨go6, (x5_1 : Int).toNat * 2, none⟩ = false := hfr7 0; have hf7_1 : w11.frozen? ⟨go6, (x5_1 : Int).toNat * 2 + 1, none⟩ = false := hfr7 1; clear hcl7 hcc7 hfr7 hM7; have HX12 := Aside0.mk (show Kd.R k83 83 w11 w0.heap.size (fun k_ => (P0_ k_ ∨ w.heap.size ≤ k_)) (.slice (some ⟨go6, 0, none⟩) x0_1.length co8) y270 from (oR HO_0)); obtain ⟨ce12, hcl12, hM12, hcc12, hfr12⟩ := Kd.R_elem HX12.out z83 (x5_1 : Int) oa (by have h_ : (x5_1 : Int) < ((x0_1.length : Int) : Int) := oa; first | exact h_ | (have e_ := (Kd.R_reads' HO_0.out).1; omega) | simpa using h_); obtain rfl := k83_openM hM12; have HP12 := Kd.R_seg HX12.out (x5_1 : Int) oa (by have h_ : (x5_1 : Int) < ((x0_1.length : Int) : Int) := oa; first | exact h_ | (have e_ := (Kd.R_reads' HO_0.out).1; omega) | simpa using h_) (seg := [.int .i64 (wrap64 (x1_1 + 1))]) (j := 1) hcl12 hcc12 (show 2 ≤ 2 from by decide) (x' := (⟨(rd_T83 y270 x5_1).f0, wrap64 (x1_1 + 1)⟩ : S83)) (k83_mkM _ _ _ (⟨(rd_T83 y270 x5_1).f0, wrap64 (x1_1 + 1)⟩ : S83) ) (fun _ hk => hk); have hx12_1 := hcc12 1 _ rfl; (try simp only [show (k83).sz = 2 from rfl, Nat.mul_one, Nat.add_zero] at hx12_1); have hf12_1 := hfr12 1; (try simp only [show (k83).sz = 2 from rfl, Nat.mul_one, Nat.add_zero] at hf12_1); clear hcl12 hcc12 hfr12 hM12) | ((with_reducible refine gate_store (t := 3) (p := 24) rfl ?_); refine store_event (t := 3) (p := 24) (v := ?vo_w13) (w1 := (w11.setCell ⟨go6, (x5_1 : Int).toNat * 2 + 1, none⟩ (.int .i64 (wrap64 (x1_1 + 1))))) ?hg ?ho ?hn ?hr ?_; (case ho => rfl); (case hg => rfl); (case hn => rfl); (case hr => first | (go_simp; done) | (go_simp; rfl)); intro w13 hw; have hg : w11.grownBy w13 (some go6) := (by rw [hw]; exact HP12.2); have hp_ : Kd.R k83 83 w13 w0.heap.size (fun k_ => (P0_ k_ ∨ w.heap.size ≤ k_)) (.slice (some ⟨go6, 0, none⟩) x0_1.length co8) y271 := (by rw [hw, Ny271.out]; exact HP12.1); clear HP12; replace HO_0 := Aside0.mk (hp_); replace HK := Aside0.mk (Kept.of_grown (S := (fun k_ => P0_ k_)) hg oK (fun k_ e_ => (HO_0.out.1 k_ e_))); replace HB := Aside0.mk ((by rw [hw]; exact below_set (HB.out) GB6.out : Below w0.heap.size w0 w13)); clear hg hw hp_))
     go_roundg k1
     case measure => have := HK1.out; omega
     case rel => exact ⟨(y271), (wrap64 ((wrap64 (x1_1 + 1)) + 1)), (wrap64 (x5_1 + 1)), oS, oS, H', ⟨by have := HK1.out; omega⟩, ⟨oR HO_0⟩, ⟨oK⟩, ⟨oB⟩⟩
    ·cases H
   ·simp only [Option.some.injEq, Prod.mk.injEq] at H
    obtain ⟨rfl, rfl⟩ := H
    obtain ⟨Ao14, co14, eo14⟩ := Kd.R_slice HO_0.out
    subst eo14
    go_wp2
    go_ret
    exact ⟨oE, oR HO_0, oB, oK⟩

/-! ### laws_markAttrS: function 100 -/
def laws_markAttrS.l0 : Nat → List (S85) → Int → Int → Option (Int × (List (S85)))
 | 0, _, _, _ => none
 | k + 1, x0, x1, x5 => if x5 < (x0.length : Int) then ((laws_markText.f k x1).bind fun t272 => (if 0 ≤ x5 then ((some (x0.set (x5 : Int).toNat (⟨t272, (rd_T85 x0 x5).f1⟩ : S85) : List (S85))).bind fun y273 => ((laws_markText.f k (wrap64 (x1 + 1))).bind fun t274 => (laws_markAttrS.l0 k (y273.set (x5 : Int).toNat (⟨(rd_T85 y273 x5).f0, t274⟩ : S85)) (wrap64 ((wrap64 (x1 + 1)) + 1)) (wrap64 (x5 + 1))))) else (none))) else (some (x1, x0))
def laws_markAttrS.f (k : Nat) (l0 : List (S85)) (a1 : Int) : Option (Int × (List (S85))) := laws_markAttrS.l0 k l0 a1 0
set_option maxHeartbeats 8000000 in
set_option maxRecDepth 100000 in
theorem laws_markAttrS.calls (k : Nat) (P0_ : Nat → Prop) (u9000_ : Value) (l0 : List (S85)) (a1 : Int) (r1 : Int) (r2 : List (S85)) (w0 w : World) (hB : Below w0.heap.size w0 w) (ho0 : Kd.R k85 85 w w0.heap.size P0_ u9000_ l0) (h : laws_markAttrS.f k l0 a1 = some (r1, r2)) :
  Calls Try.prog 100 #[u9000_, .int .i64 a1] w fun e w' => e = .returned (.int .i64 r1) ∧ Kd.R k85 85 w' w0.heap.size (fun k_ => (P0_ k_ ∨ w.heap.size ≤ k_)) u9000_ r2 ∧ Below w0.heap.size w0 w' ∧ Kept w w' (fun k_ => P0_ k_) := by
 have HO0 := Aside0.mk (show Kd.R k85 85 w w0.heap.size (fun k_ => (P0_ k_ ∨ w.heap.size ≤ k_)) u9000_ l0 from Kd.R_mono ho0 (fun k_ hk => (.inl hk)))
 have HK := Aside0.mk (Kept.refl w (fun k_ => P0_ k_))
 have HW0 := Aside0.mk hB.size
 have HB := Aside0.mk hB
 clear hB
 unfold laws_markAttrS.f at h
 have H := h
 clear h
 have H' := Aside0.mk H
 clear H
 go_enter Try.func100, Try.ntmps100
 go_wp2
 go_loopg [1, 5] k (fun kq v1 v5 w' => ∃ (x0_1 : List (S85)) (x1_1 : Int) (x5_1 : Int), v1 = .int .i64 x1_1 ∧ v5 = .int .i64 x5_1 ∧ Aside0 (laws_markAttrS.l0 kq x0_1 x1_1 x5_1 = some (r1, r2)) ∧ Aside0 (kq ≤ k) ∧ Aside0 (Kd.R k85 85 w' w0.heap.size (fun k_ => (P0_ k_ ∨ w.heap.size ≤ k_)) u9000_ x0_1) ∧ Aside0 (Kept w w' (fun k_ => P0_ k_)) ∧ Aside0 (Below w0.heap.size w0 w'))
 case atStart => exact ⟨(l0), (a1), (0), oS, oS, H', ⟨Nat.le_refl _⟩, ⟨oR HO0⟩, ⟨oK⟩, ⟨oB⟩⟩
 case round =>
  clear H'
  obtain ⟨x0_1, x1_1, x5_1, rfl, rfl, HA, HK1, HO_0, HK, HB⟩ := hrel
  cases gk with
  | zero => exact absurd HA.out (by simp [laws_markAttrS.l0])
  | succ k1 =>
   have H := HA.out
   clear HA
   simp only [laws_markAttrS.l0] at H
   replace H := itD H
   rcases H with ⟨c3b0, H⟩ | ⟨c3b0, H⟩
   ·replace H := bA H
    obtain ⟨t272, A4, H⟩ := H
    try dsimp only at H
    replace H := itD H
    rcases H with ⟨c5b0, H⟩ | ⟨c5b0, H⟩
    ·obtain ⟨y273, hy273⟩ : ∃ y_ : List (S85), y_ = (x0_1.set (x5_1 : Int).toNat (⟨t272, (rd_T85 x0_1 x5_1).f1⟩ : S85)) := ⟨_, rfl⟩
     replace H : ((laws_markText.f k1 (wrap64 (x1_1 + 1))).bind fun t274 => (laws_markAttrS.l0 k1 (y273.set (x5_1 : Int).toNat (⟨(rd_T85 y273 x5_1).f0, t274⟩ : S85)) (wrap64 ((wrap64 (x1_1 + 1)) + 1)) (wrap64 (x5_1 + 1)))) = some (r1, r2) := by first | (rw [hy273]; with_reducible exact H) | (have H2_ := (Option.bind_some _ _).symm.trans H; rw [hy273]; with_reducible exact H2_) | (have H2_ := (Option.bind_some _ _).symm.trans H; with_reducible exact H2_) | with_reducible exact H | (rw [hy273]; exact H) | exact H
     have Ny273 := Aside0.mk hy273
     clear hy273
     replace H := bA H
     obtain ⟨t274, A7, H⟩ := H
     try dsimp only at H
     obtain ⟨y275, hy275⟩ : ∃ y_ : List (S85), y_ = (y273.set (x5_1 : Int).toNat (⟨(rd_T85 y273 x5_1).f0, t274⟩ : S85)) := ⟨_, rfl⟩
     replace H : (laws_markAttrS.l0 k1 y275 (wrap64 ((wrap64 (x1_1 + 1)) + 1)) (wrap64 (x5_1 + 1))) = some (r1, r2) := by first | (rw [hy275]; with_reducible exact H) | (have H2_ := (Option.bind_some _ _).symm.trans H; rw [hy275]; with_reducible exact H2_) | (have H2_ := (Option.bind_some _ _).symm.trans H; with_reducible exact H2_) | with_reducible exact H | (rw [hy275]; exact H) | exact H
     have Ny275 := Aside0.mk hy275
     clear hy275
     have H' := Aside0.mk H
     clear H
     obtain ⟨Ao9, co9, eo9⟩ := Kd.R_slice HO_0.out
     subst eo9
     go_wp2_with (first | ((with_reducible refine gate_callee (f := 132) rfl ?_); refine gl_ 15 Try.func132 (laws_markText.calls k1 x1_1 t272 _ A4.out) ?_; rintro e w10 ⟨rfl, hb⟩; refine ⟨_, rfl, ?_⟩; replace HO_0 := kr_ HO_0 hb; replace HK := Aside0.mk (Kept.below (S := (fun k_ => P0_ k_)) oK hb); replace HB := Aside0.mk (below_step oB hb); (try clear hk); have p6 : 0 ≤ (x5_1 : Int) := oa; have q6 : (x5_1 : Int) < ((x0_1.length : Int) : Int) := oa; obtain ⟨go6, co6, eo6, gb6, gl6, cl6, HG6⟩ := Kd.R_form HO_0.out (by omega); (first | cases eo6 | (injection eo6 with ea_ en_ ec_; (first | subst ea_ | (injection ea_ with ea_; subst ea_)); subst ec_; clear en_)); have GB6 := Aside0.mk gb6; have GG6 := Aside0.mk HG6; clear gb6 gl6 HG6; have HMgo6 := Aside0.mk (show (P0_ go6 ∨ w.heap.size ≤ go6) from (HO_0.out.1 _ rfl)); obtain ⟨ce6, hcl6, hM6, hcc6, hfr6⟩ := Kd.R_elem HO_0.out z85 (x5_1 : Int) p6 q6; obtain rfl := k85_openM hM6; have hx6_0 : w10.cell? ⟨go6, (x5_1 : Int).toNat * 2, none⟩ = some (.string ((rd_T85 x0_1 x5_1).f0)) := hcc6 0 _ rfl; have hx6_1 : w10.cell? ⟨go6, (x5_1 : Int).toNat * 2 + 1, none⟩ = some (.string ((rd_T85 x0_1 x5_1).f1)) := hcc6 1 _ rfl; have hf6_0 : w10.frozen? ⟨go6, (x5_1 : Int).toNat * 2, none⟩ = false := hfr6 0; have hf6_1 : w10.frozen? ⟨go6, (x5_1 : Int).toNat * 2 + 1, none⟩ = false := hfr6 1; clear hcl6 hcc6 hfr6 hM6; replace p6 := eq_true p6; replace q6 := eq_true q6; have HX11 := Aside0.mk (show Kd.R k85 85 w10 w0.heap.size (fun k_ => (P0_ k_ ∨ w.heap.size ≤ k_)) (.slice (some ⟨go6, 0, none⟩) x0_1.length co9) x0_1 from (oR HO_0)); obtain ⟨ce11, hcl11, hM11, hcc11, hfr11⟩ := Kd.R_elem HX11.out z85 (x5_1 : Int) oa (by have h_ : (x5_1 : Int) < ((x0_1.length : Int) : Int) := oa; first | exact h_ | (have e_ := (Kd.R_reads' HO_0.out).1; omega) | simpa using h_); obtain rfl := k85_openM hM11; have HP11 := Kd.R_seg HX11.out (x5_1 : Int) oa (by have h_ : (x5_1 : Int) < ((x0_1.length : Int) : Int) := oa; first | exact h_ | (have e_ := (Kd.R_reads' HO_0.out).1; omega) | simpa using h_) (seg := [.string t272]) (j := 0) hcl11 hcc11 (show 1 ≤ 2 from by decide) (x' := (⟨t272, (rd_T85 x0_1 x5_1).f1⟩ : S85)) (k85_mkM _ _ _ (⟨t272, (rd_T85 x0_1 x5_1).f1⟩ : S85) ) (fun _ hk => hk); have hx11_0 := hcc11 0 _ rfl; (try simp only [show (k85).sz = 2 from rfl, Nat.mul_one, Nat.add_zero] at hx11_0); have hf11_0 := hfr11 0; (try simp only [show (k85).sz = 2 from rfl, Nat.mul_one, Nat.add_zero] at hf11_0); clear hcl11 hcc11 hfr11 hM11) | ((with_reducible refine gate_store (t := 9) (p := 17) rfl ?_); refine store_event (t := 9) (p := 17) (v := ?vo_w12) (w1 := (w10.setCell ⟨go6, (x5_1 : Int).toNat * 2, none⟩ (.string t272))) ?hg ?ho ?hn ?hr ?_; (case ho => rfl); (case hg => rfl); (case hn => rfl); (case hr => first | (go_simp; done) | (go_simp; rfl)); intro w12 hw; have hg : w10.grownBy w12 (some go6) := (by rw [hw]; exact HP11.2); have hp_ : Kd.R k85 85 w12 w0.heap.size (fun k_ => (P0_ k_ ∨ w.heap.size ≤ k_)) (.slice (some ⟨go6, 0, none⟩) x0_1.length co9) y273 := (by rw [hw, Ny273.out]; exact HP11.1); clear HP11; replace HO_0 := Aside0.mk (hp_); replace HK := Aside0.mk (Kept.of_grown (S := (fun k_ => P0_ k_)) hg oK (fun k_ e_ => (HO_0.out.1 k_ e_))); replace HB := Aside0.mk ((by rw [hw]; exact below_set (HB.out) GB6.out : Below w0.heap.size w0 w12)); clear hg hw hp_) | ((with_reducible refine gate_callee (f := 132) rfl ?_); refine gl_ 23 Try.func132 (laws_markText.calls k1 (wrap64 (x1_1 + 1)) t274 _ A7.out) ?_; rintro e w13 ⟨rfl, hb⟩; refine ⟨_, rfl, ?_⟩; replace HO_0 := kr_ HO_0 hb; replace HK := Aside0.mk (Kept.below (S := (fun k_ => P0_ k_)) oK hb); replace HB := Aside0.mk (below_step oB hb); (try clear hk); have p8 : (0 ≤ (x5_1 : Int)) = True := oT; have q8 : ((x5_1 : Int) < ((x0_1.length : Int) : Int)) = True := oT; obtain ⟨ce8, hcl8, hM8, hcc8, hfr8⟩ := Kd.R_elem HO_0.out z85 (x5_1 : Int) oa oa; obtain rfl := k85_openM hM8; have hx8_0 : w13.cell? ⟨go6, (x5_1 : Int).toNat * 2, none⟩ = some (.string ((rd_T85 y273 x5_1).f0)) := hcc8 0 _ rfl; have hx8_1 : w13.cell? ⟨go6, (x5_1 : Int).toNat * 2 + 1, none⟩ = some (.string ((rd_T85 y273 x5_1).f1)) := hcc8 1 _ rfl; have hf8_0 : w13.frozen? ⟨go6, (x5_1 : Int).toNat * 2, none⟩ = false := hfr8 0; have hf8_1 : w13.frozen? ⟨go6, (x5_1 : Int).toNat * 2 + 1, none⟩ = false := hfr8 1; clear hcl8 hcc8 hfr8 hM8; have HX14 := Aside0.mk (show Kd.R k85 85 w13 w0.heap.size (fun k_ => (P0_ k_ ∨ w.heap.size ≤ k_)) (.slice (some ⟨go6, 0, none⟩) x0_1.length co9) y273 from (oR HO_0)); obtain ⟨ce14, hcl14, hM14, hcc14, hfr14⟩ := Kd.R_elem HX14.out z85 (x5_1 : Int) oa (by have h_ : (x5_1 : Int) < ((x0_1.length : Int) : Int) := oa; first | exact h_ | (have e_ := (Kd.R_reads' HO_0.out).1; omega) | simpa using h_); obtain rfl := k85_openM hM14; have HP14 := Kd.R_seg HX14.out (x5_1 : Int) oa (by have h_ : (x5_1 : Int) < ((x0_1.length : Int) : Int) := oa; first | exact h_ | (have e_ := (Kd.R_reads' HO_0.out).1; omega) | simpa using h_) (seg := [.string t274]) (j := 1) hcl14 hcc14 (show 2 ≤ 2 from by decide) (x' := (⟨(rd_T85 y273 x5_1).f0, t274⟩ : S85)) (k85_mkM _ _ _ (⟨(rd_T85 y273 x5_1).f0, t274⟩ : S85) ) (fun _ hk => hk); have hx14_1 := hcc14 1 _ rfl; (try simp only [show (k85).sz = 2 from rfl, Nat.mul_one, Nat.add_zero] at hx14_1); have hf14_1 := hfr14 1; (try simp only [show (k85).sz = 2 from rfl, Nat.mul_one, Nat.add_zero] at hf14_1); clear hcl14 hcc14 hfr14 hM14) | ((with_reducible refine gate_store (t := 9) (p := 25) rfl ?_); refine store_event (t := 9) (p := 25) (v := ?vo_w15) (w1 := (w13.setCell ⟨go6, (x5_1 : Int).toNat * 2 + 1, none⟩ (.string t274))) ?hg ?ho ?hn ?hr ?_; (case ho => rfl); (case hg => rfl); (case hn => rfl); (case hr => first | (go_simp; done) | (go_simp; rfl)); intro w15 hw; have hg : w13.grownBy w15 (some go6) := (by rw [hw]; exact HP14.2); have hp_ : Kd.R k85 85 w15 w0.heap.size (fun k_ => (P0_ k_ ∨ w.heap.size ≤ k_)) (.slice (some ⟨go6, 0, none⟩) x0_1.length co9) y275 := (by rw [hw, Ny275.out]; exact HP14.1); clear HP14; replace HO_0 := Aside0.mk (hp_); replace HK := Aside0.mk (Kept.of_grown (S := (fun k_ => P0_ k_)) hg oK (fun k_ e_ => (HO_0.out.1 k_ e_))); replace HB := Aside0.mk ((by rw [hw]; exact below_set (HB.out) GB6.out : Below w0.heap.size w0 w15)); clear hg hw hp_))
     go_roundg k1
     case measure => have := HK1.out; omega
     case rel => exact ⟨(y275), (wrap64 ((wrap64 (x1_1 + 1)) + 1)), (wrap64 (x5_1 + 1)), oS, oS, H', ⟨by have := HK1.out; omega⟩, ⟨oR HO_0⟩, ⟨oK⟩, ⟨oB⟩⟩
    ·cases H
   ·simp only [Option.some.injEq, Prod.mk.injEq] at H
    obtain ⟨rfl, rfl⟩ := H
    obtain ⟨Ao16, co16, eo16⟩ := Kd.R_slice HO_0.out
    subst eo16
    go_wp2
    go_ret
    exact ⟨oE, oR HO_0, oB, oK⟩

/-! ### laws_markInodeS: function 71 -/
/-- An element of a row of inodes, lent: its cells, its rows, and the row without it. -/
structure MkS (w0 W : World) (ok : Nat → Prop) (g n co : Nat) (xs : List S45) (i : Nat) (oki : Nat → Prop) (v3 v4 v5 : Value) (y : S45) : Prop where
 lt : i < n
 h : Kd.H k45 45 W w0.heap.size ok (.slice (some ⟨g, 0, none⟩) n co) xs (i : Int) oki [.int .i64 y.f0, .int .i64 y.f1, .int .i64 y.f2, v3, v4, v5]
 r3 : (Kd.int .u8).R 5 W w0.heap.size oki v3 y.f3
 r4 : k83.R 83 W w0.heap.size oki v4 y.f4
 r5 : k85.R 85 W w0.heap.size oki v5 y.f5
 fr : ∀ j, W.frozen? ⟨g, i * 6 + j, none⟩ = false
 hg : ∀ k, oki k → ok k ∧ k ≠ g
section
variable {w0 W W' : World} {ok oki : Nat → Prop} {g n co i : Nat} {xs : List S45} {v3 v4 v5 : Value} {y : S45}
theorem MkS.start (hS : Kd.S k45 45 W w0.heap.size ok (.slice (some ⟨g, 0, none⟩) n co) xs) (hi : i < n) : ∃ oki v3 v4 v5, MkS w0 W ok g n co xs i oki v3 v4 v5 (rd_T45 xs (i : Int)) := by
 obtain ⟨oki, c, hcl, hM, hcc, hfr, hoki, hH⟩ := Kd.S_elem hS z45 (i : Int) (by omega) (by omega)
 obtain ⟨v3, v4, v5, rfl, g3, g4, g5⟩ := k45_openM hM
 exact ⟨oki, v3, v4, v5, hi, hH, g3, g4, g5, hfr, hoki⟩
theorem MkS.cells (m : MkS w0 W ok g n co xs i oki v3 v4 v5 y) : W.cell? ⟨g, i * 6, none⟩ = some (.int .i64 y.f0) ∧ W.cell? ⟨g, i * 6 + 1, none⟩ = some (.int .i64 y.f1) ∧ W.cell? ⟨g, i * 6 + 2, none⟩ = some (.int .i64 y.f2) ∧ W.cell? ⟨g, i * 6 + 3, none⟩ = some v3 ∧ W.cell? ⟨g, i * 6 + 4, none⟩ = some v4 ∧ W.cell? ⟨g, i * 6 + 5, none⟩ = some v5 := by
 obtain ⟨_, _, _, _, _, hcc, _⟩ := Kd.H_raw m.h (by omega) (by have := m.lt; omega)
 exact ⟨hcc 0 _ rfl, hcc 1 _ rfl, hcc 2 _ rfl, hcc 3 _ rfl, hcc 4 _ rfl, hcc 5 _ rfl⟩
theorem MkS.typed (m : MkS w0 W ok g n co xs i oki v3 v4 v5 y) : ∃ cells, W.heap[g]? = some (.cells cells 45 (0, 0)) := by
 obtain ⟨_, f, hR⟩ := m.h
 exact Kd.R_typed hR g (by simp [Value.ownBlock])
theorem MkS.okg (m : MkS w0 W ok g n co xs i oki v3 v4 v5 y) : ok g := by
 obtain ⟨_, f, hR⟩ := m.h
 exact (hR.1 g (by simp [Value.ownBlock])).1
theorem MkS.base (m : MkS w0 W ok g n co xs i oki v3 v4 v5 y) : w0.heap.size ≤ g := by
 obtain ⟨_, f, hR⟩ := m.h
 exact Kd.R_base hR g (by simp [Value.ownBlock])
theorem MkS.back (m : MkS w0 W ok g n co xs i oki v3 v4 v5 y) : Kd.S k45 45 W w0.heap.size ok (.slice (some ⟨g, 0, none⟩) n co) (xs.set i y) := by
 have := Kd.H_back m.h (k45_mkM W w0.heap.size oki y m.r3 m.r4 m.r5) (fun _ hk => hk)
 simpa using this
theorem MkS.frset (m : MkS w0 W ok g n co xs i oki v3 v4 v5 y) (j : Nat) (u : Value) : ∀ q, (W.setCell ⟨g, i * 6 + j, none⟩ u).frozen? ⟨g, i * 6 + q, none⟩ = false := by
 intro q
 obtain ⟨cs, hc⟩ := m.typed
 exact blk_frozen (blk_set hc _ _) _
theorem MkS.set0 (m : MkS w0 W ok g n co xs i oki v3 v4 v5 y) (a : Int) : MkS w0 (W.setCell ⟨g, i * 6, none⟩ (.int .i64 a)) ok g n co xs i oki v3 v4 v5 ⟨a, y.f1, y.f2, y.f3, y.f4, y.f5⟩ :=
 ⟨m.lt, (Kd.H_seg m.h (seg := [.int .i64 a]) (j := 0) (by omega) (by have := m.lt; omega) (show 1 ≤ 6 by decide) (by simp; rfl)).1, Kd.R_far m.r3 (fun k hk => (m.hg k hk).2) _, Kd.R_far m.r4 (fun k hk => (m.hg k hk).2) _, Kd.R_far m.r5 (fun k hk => (m.hg k hk).2) _, m.frset 0 _, m.hg⟩
theorem MkS.set1 (m : MkS w0 W ok g n co xs i oki v3 v4 v5 y) (a : Int) : MkS w0 (W.setCell ⟨g, i * 6 + 1, none⟩ (.int .i64 a)) ok g n co xs i oki v3 v4 v5 ⟨y.f0, a, y.f2, y.f3, y.f4, y.f5⟩ :=
 ⟨m.lt, (Kd.H_seg m.h (seg := [.int .i64 a]) (j := 1) (by omega) (by have := m.lt; omega) (show 2 ≤ 6 by decide) (by simp; rfl)).1, Kd.R_far m.r3 (fun k hk => (m.hg k hk).2) _, Kd.R_far m.r4 (fun k hk => (m.hg k hk).2) _, Kd.R_far m.r5 (fun k hk => (m.hg k hk).2) _, m.frset 1 _, m.hg⟩
theorem MkS.set2 (m : MkS w0 W ok g n co xs i oki v3 v4 v5 y) (a : Int) : MkS w0 (W.setCell ⟨g, i * 6 + 2, none⟩ (.int .i64 a)) ok g n co xs i oki v3 v4 v5 ⟨y.f0, y.f1, a, y.f3, y.f4, y.f5⟩ :=
 ⟨m.lt, (Kd.H_seg m.h (seg := [.int .i64 a]) (j := 2) (by omega) (by have := m.lt; omega) (show 3 ≤ 6 by decide) (by simp; rfl)).1, Kd.R_far m.r3 (fun k hk => (m.hg k hk).2) _, Kd.R_far m.r4 (fun k hk => (m.hg k hk).2) _, Kd.R_far m.r5 (fun k hk => (m.hg k hk).2) _, m.frset 2 _, m.hg⟩
theorem MkS.frkept (m : MkS w0 W ok g n co xs i oki v3 v4 v5 y) {S : Nat → Prop} (hk : Kept W W' S) (hn : ¬ S g) : ∀ q, W'.frozen? ⟨g, i * 6 + q, none⟩ = false := by
 intro q
 obtain ⟨cs, hc⟩ := m.typed
 exact blk_frozen (blk_kept hc hk hn) _
theorem MkS.after3 (m : MkS w0 W ok g n co xs i oki v3 v4 v5 y) {l : List Int} (hk : Kept W W' (fun k => some k = v3.ownBlock)) (hr : (Kd.int .u8).R 5 W' w0.heap.size (fun k => some k = v3.ownBlock ∨ W.heap.size ≤ k) v3 l) : MkS w0 W' ok g n co xs i oki v3 v4 v5 ⟨y.f0, y.f1, y.f2, l, y.f4, y.f5⟩ := by
 obtain ⟨cs, hc⟩ := m.typed
 exact ⟨m.lt, Kd.H_kept m.h hk (fun k _ hn hs => hn (m.r3.1 k hs.symm)), Kd.R_reok rfl hr (fun k e => m.r3.1 k e), Kd.R_mono (Kd.R_kept (Kd.R_apart' m.r4 (Kd.R_typed m.r3) (by decide)) hk (fun k hk hs => hk.2 hs)) (fun _ hk => hk.1), Kd.R_mono (Kd.R_kept (Kd.R_apart' m.r5 (Kd.R_typed m.r3) (by decide)) hk (fun k hk hs => hk.2 hs)) (fun _ hk => hk.1), m.frkept hk (fun e => Kd.R_ne m.r3 hc (by decide) e), m.hg⟩
theorem MkS.after4 (m : MkS w0 W ok g n co xs i oki v3 v4 v5 y) {l : List S83} (hk : Kept W W' (fun k => some k = v4.ownBlock)) (hr : k83.R 83 W' w0.heap.size (fun k => some k = v4.ownBlock ∨ W.heap.size ≤ k) v4 l) : MkS w0 W' ok g n co xs i oki v3 v4 v5 ⟨y.f0, y.f1, y.f2, y.f3, l, y.f5⟩ := by
 obtain ⟨cs, hc⟩ := m.typed
 exact ⟨m.lt, Kd.H_kept m.h hk (fun k _ hn hs => hn (m.r4.1 k hs.symm)), Kd.R_mono (Kd.R_kept (Kd.R_apart' m.r3 (Kd.R_typed m.r4) (by decide)) hk (fun k hk hs => hk.2 hs)) (fun _ hk => hk.1), Kd.R_reok rfl hr (fun k e => m.r4.1 k e), Kd.R_mono (Kd.R_kept (Kd.R_apart' m.r5 (Kd.R_typed m.r4) (by decide)) hk (fun k hk hs => hk.2 hs)) (fun _ hk => hk.1), m.frkept hk (fun e => Kd.R_ne m.r4 hc (by decide) e), m.hg⟩
theorem MkS.after5 (m : MkS w0 W ok g n co xs i oki v3 v4 v5 y) {l : List S85} (hk : Kept W W' (fun k => some k = v5.ownBlock)) (hr : k85.R 85 W' w0.heap.size (fun k => some k = v5.ownBlock ∨ W.heap.size ≤ k) v5 l) : MkS w0 W' ok g n co xs i oki v3 v4 v5 ⟨y.f0, y.f1, y.f2, y.f3, y.f4, l⟩ := by
 obtain ⟨cs, hc⟩ := m.typed
 exact ⟨m.lt, Kd.H_kept m.h hk (fun k _ hn hs => hn (m.r5.1 k hs.symm)), Kd.R_mono (Kd.R_kept (Kd.R_apart' m.r3 (Kd.R_typed m.r5) (by decide)) hk (fun k hk hs => hk.2 hs)) (fun _ hk => hk.1), Kd.R_mono (Kd.R_kept (Kd.R_apart' m.r4 (Kd.R_typed m.r5) (by decide)) hk (fun k hk hs => hk.2 hs)) (fun _ hk => hk.1), Kd.R_reok rfl hr (fun k e => m.r5.1 k e), m.frkept hk (fun e => Kd.R_ne m.r5 hc (by decide) e), m.hg⟩
end
def markOne (k : Nat) (x : S45) (a : Int) : Option (Int × S45) :=
 (laws_markByteS.f k x.f3 (wrap64 (wrap64 (wrap64 (a + 1) + 1) + 1))).bind fun b => (laws_markEntS.f k x.f4 b.1).bind fun c => (laws_markAttrS.f k x.f5 c.1).bind fun d => some (d.1, ⟨a, wrap64 (a + 1), wrap64 (wrap64 (a + 1) + 1), b.2, c.2, d.2⟩)
def markR (k : Nat) : List S45 → Int → Option (Int × List S45)
 | [], a => some (a, [])
 | x :: l, a => (markOne k x a).bind fun p => (markR k l p.1).bind fun q => some (q.1, p.2 :: q.2)
def laws_markInodeS.f (k : Nat) (l0 : List S45) (a1 : Int) : Option (Int × List S45) := if (l0.length : Int) ≤ 9223372036854775807 then markR k l0 a1 else none
set_option maxHeartbeats 2000000 in
set_option maxRecDepth 100000 in
theorem laws_markInodeS.calls (k : Nat) (P0_ : Nat → Prop) (u9000_ : Value) (l0 : List S45) (a1 r1 : Int) (r2 : List S45) (w0 w : World) (hB : Below w0.heap.size w0 w) (ho0 : Kd.S k45 45 w w0.heap.size P0_ u9000_ l0) (h : laws_markInodeS.f k l0 a1 = some (r1, r2)) :
  Calls Try.prog 71 #[u9000_, .int .i64 a1] w fun e w' => e = .returned (.int .i64 r1) ∧ Kd.S k45 45 w' w0.heap.size (fun k_ => P0_ k_ ∨ w.heap.size ≤ k_) u9000_ r2 ∧ Below w0.heap.size w0 w' ∧ Kept w w' P0_ := by
 unfold laws_markInodeS.f at h
 split at h
 case isFalse => cases h
 case isTrue hl =>
 obtain ⟨A, co, rfl⟩ := Kd.S_slice ho0
 have HO := Aside0.mk (show Kd.S k45 45 w w0.heap.size (fun k_ => P0_ k_ ∨ w.heap.size ≤ k_) (.slice A l0.length co) l0 from Kd.S_mono ho0 (fun _ hk => .inl hk))
 have HB := Aside0.mk hB
 have HK := Aside0.mk (Kept.refl w P0_)
 have H' : Aside0 (∃ rest, markR k (l0.drop 0) a1 = some (r1, rest) ∧ r2 = [] ++ rest) := ⟨r2, h, rfl⟩
 have HW := Aside0.mk hB.size
 clear hB ho0 h
 have hl' : l0.length ≤ 9223372036854775807 := by omega
 clear hl
 go_enter Try.func71, Try.ntmps71
 go_wp2
 go_loopg [1, 5] l0.length (fun gg s1 s5 wr => ∃ (kk : Nat) (a : Int) (done : List S45), kk ≤ l0.length ∧ l0.length - kk ≤ gg ∧ s1 = .int .i64 a ∧ s5 = .int .i64 kk ∧ Aside0 (done.length = kk) ∧ Aside0 (∃ rest, markR k (l0.drop kk) a = some (r1, rest) ∧ r2 = done ++ rest) ∧ Aside0 (Kd.S k45 45 wr w0.heap.size (fun k_ => P0_ k_ ∨ w.heap.size ≤ k_) (.slice A l0.length co) (done ++ l0.drop kk)) ∧ Aside0 (Below w0.heap.size w0 wr) ∧ Aside0 (Kept w wr P0_))
 case atStart => exact ⟨0, a1, [], Nat.zero_le _, by omega, rfl, rfl, ⟨rfl⟩, H', HO, HB, HK⟩
 case round =>
  clear HO HB HK H'
  obtain ⟨kk, a, done, hkk, hgg, rfl, rfl, HD, HA, HO, HB, HK⟩ := hrel
  by_cases hlt : kk < l0.length
  ·have hltz : (kk : Int) < (l0.length : Int) := by omega
   have hnn : (0 : Int) ≤ (kk : Int) := by omega
   obtain ⟨rest, hm, hr2⟩ := HA.out
   clear HA
   have hx : rd_T45 (done ++ l0.drop kk) (kk : Int) = l0[kk] := by
    have hd := HD.out
    simp only [rd_T45, Int.toNat_natCast, List.getD_eq_getElem?_getD]
    rw [List.getElem?_append_right (by omega), hd, Nat.sub_self, List.drop_eq_getElem_cons hlt]
    rfl
   rw [List.drop_eq_getElem_cons hlt, markR] at hm
   replace hm := bA hm
   obtain ⟨⟨a', x'⟩, A1, hm⟩ := hm
   replace hm := bA hm
   obtain ⟨⟨b1, rest'⟩, A2, hm⟩ := hm
   simp only [Option.some.injEq, Prod.mk.injEq] at hm
   obtain ⟨rfl, rfl⟩ := hm
   have A1 := A1.out
   unfold markOne at A1
   replace A1 := bA A1
   obtain ⟨⟨k3, l3⟩, B3, A1⟩ := A1
   replace A1 := bA A1
   obtain ⟨⟨k4, l4⟩, B4, A1⟩ := A1
   replace A1 := bA A1
   obtain ⟨⟨k5, l5⟩, B5, A1⟩ := A1
   simp only [Option.some.injEq, Prod.mk.injEq] at A1
   obtain ⟨rfl, rfl⟩ := A1
   have HR2 := Aside0.mk hr2
   clear hr2
   obtain ⟨g, cap, ev, _, _, _⟩ := Kd.S_form HO.out (by have hd := HD.out; simp; omega)
   injection ev with ea en ec
   subst ea
   clear en
   subst ec
   obtain ⟨oki, v3, v4, v5, m⟩ := MkS.start HO.out hlt
   rw [hx] at m
   clear hx HO
   obtain ⟨c0_, c1_, c2_, c3_, c4_, c5_⟩ := m.cells
   have f0_ : wr.frozen? ⟨g, kk * 6, none⟩ = false := m.fr 0
   have f1_ : wr.frozen? ⟨g, kk * 6 + 1, none⟩ = false := m.fr 1
   have f2_ : wr.frozen? ⟨g, kk * 6 + 2, none⟩ = false := m.fr 2
   have m3 := ((m.set0 a).set1 (wrap64 (a + 1))).set2 (wrap64 (wrap64 (a + 1) + 1))
   have HB3 := Aside0.mk (((HB.out.setCell (p := ⟨g, kk * 6, none⟩) m.base (.int .i64 a)).setCell (p := ⟨g, kk * 6 + 1, none⟩) m.base (.int .i64 (wrap64 (a + 1)))).setCell (p := ⟨g, kk * 6 + 2, none⟩) m.base (.int .i64 (wrap64 (wrap64 (a + 1) + 1))))
   have HK3 := Aside0.mk (((HK.out.setCell (p := ⟨g, kk * 6, none⟩) m.okg (.int .i64 a)).setCell (p := ⟨g, kk * 6 + 1, none⟩) m.okg (.int .i64 (wrap64 (a + 1)))).setCell (p := ⟨g, kk * 6 + 2, none⟩) m.okg (.int .i64 (wrap64 (wrap64 (a + 1) + 1))))
   obtain ⟨A3, n3, e3⟩ := Kd.R_slice m.r3
   obtain ⟨A4, n4, e4⟩ := Kd.R_slice m.r4
   obtain ⟨A5, n5, e5⟩ := Kd.R_slice m.r5
   subst e3
   subst e4
   subst e5
   clear HB HK
   go_wp2_with (first
    | (go_at_call 49; refine (laws_markByteS.calls k _ _ _ _ k3 l3 w0 _ HB3.out (Kd.R_tight rfl m3.r3) B3.out).mono ?_; rintro e w4 ⟨rfl, hy, hb, hk⟩; have m4 := m3.after3 hk hy; have HB4 := Aside0.mk hb; have HK4 := Aside0.mk (HK3.out.then_ hk (fun q hs => (m3.hg q (m3.r3.1 q hs.symm)).1)); clear hb hk hy; obtain ⟨_, _, _, _, d4, d5⟩ := m4.cells)
    | (go_at_call 99; refine (laws_markEntS.calls k _ _ _ _ k4 l4 w0 _ HB4.out (Kd.R_tight rfl m4.r4) B4.out).mono ?_; rintro e w5 ⟨rfl, hy, hb, hk⟩; have m5 := m4.after4 hk hy; have HB5 := Aside0.mk hb; have HK5 := Aside0.mk (HK4.out.then_ hk (fun q hs => (m4.hg q (m4.r4.1 q hs.symm)).1)); clear hb hk hy; obtain ⟨_, _, _, _, _, e5⟩ := m5.cells)
    | (go_at_call 100; refine (laws_markAttrS.calls k _ _ _ _ k5 l5 w0 _ HB5.out (Kd.R_tight rfl m5.r5) B5.out).mono ?_; rintro e w6 ⟨rfl, hy, hb, hk⟩; have m6 := m5.after5 hk hy; have HB6 := Aside0.mk hb; have HK6 := Aside0.mk (HK5.out.then_ hk (fun q hs => (m5.hg q (m5.r5.1 q hs.symm)).1)); clear hb hk hy))
   go_roundg (l0.length - (kk + 1))
   case measure => omega
   case rel =>
    refine ⟨kk + 1, k5, done ++ [⟨a, wrap64 (a + 1), wrap64 (wrap64 (a + 1) + 1), l3, l4, l5⟩], by omega, by omega, rfl, by go_num, ⟨by have hd := HD.out; simp; omega⟩, ⟨rest', A2.out, by rw [HR2.out]; simp⟩, ⟨?_⟩, HB6, HK6⟩
    have hs := m6.back
    have hd := HD.out
    rw [List.set_append_right _ _ (by omega), hd, Nat.sub_self, List.drop_eq_getElem_cons hlt, List.set_cons_zero] at hs
    simpa using hs
  ·have hltz : ¬ (kk : Int) < (l0.length : Int) := by omega
   obtain rfl : kk = l0.length := by omega
   obtain ⟨rest, hm, hr2⟩ := HA.out
   rw [List.drop_length, markR] at hm
   simp only [Option.some.injEq, Prod.mk.injEq] at hm
   obtain ⟨rfl, rfl⟩ := hm
   subst hr2
   have HO1 := HO.out
   rw [List.drop_length] at HO1
   have HO2 := Aside0.mk HO1
   clear HO HO1 HA
   go_wp2
   go_ret
   exact ⟨rfl, by simpa using HO2.out, HB.out, HK.out⟩
/-! ### laws_markTab: function 26 -/
set_option maxHeartbeats 1000000 in
theorem laws_markTab.calls (k : Nat) (P0_ : Nat → Prop) (u : Value) (l0 : List S45) (a0 a1 r1 : Int) (r2 : List S45) (w0 w : World) (hB : Below w0.heap.size w0 w) (ho0 : Kd.S k45 45 w w0.heap.size P0_ u l0) (h : laws_markInodeS.f k l0 a1 = some (r1, r2)) :
  Calls Try.prog 26 #[.agg #[u, .int .i64 a0], .int .i64 a1] w fun e w' => e = .returned (.int .i64 r1) ∧ Kd.S k45 45 w' w0.heap.size (fun k_ => P0_ k_ ∨ w.heap.size ≤ k_) u r2 ∧ Below w0.heap.size w0 w' ∧ Kept w w' P0_ := by
 obtain ⟨A, co, rfl⟩ := Kd.S_slice ho0
 have HH := Aside0.mk h
 have hc := laws_markInodeS.calls k P0_ (.slice A l0.length co) l0 a1 r1 r2 w0 (w.alloc (.cells #[.slice A l0.length co, .int .i64 a0] 30)) (hB.alloc hB.size _) (Kd.S_alloc ho0 _) h
 have HC := Aside0.mk hc
 have HW := Aside0.mk hB.size
 clear h hc hB ho0
 go_enter Try.func26, Try.ntmps26
 go_wp2_with (go_at_call 71; refine HC.out.mono ?_; rintro e w1 ⟨rfl, hs, hb, hk⟩)
 go_ret
 exact ⟨rfl, Kd.S_mono hs (fun q hq => hq.imp_right (fun h => by simp at h; omega)), hb, (Kept.alloc (Kept.refl w P0_) _).then_ hk (fun q hq => .inl hq)⟩
/-! ### laws_heldByteS: function 50 -/
def laws_heldByteS.l0 : Nat → List Int → Int → Int → Option (Int)
 | 0, _, _, _ => none
 | k + 1, x0, x1, x5 => if x5 < (x0.length : Int) then (if 0 ≤ x5 then (if (rd x0 x5) = ((x1) % 256) then (laws_heldByteS.l0 k x0 (wrap64 (x1 + 1)) (wrap64 (x5 + 1))) else (some (-1))) else (none)) else (some x1)
def laws_heldByteS.f (k : Nat) (l0 : List Int) (a1 : Int) : Option (Int) := laws_heldByteS.l0 k l0 a1 0
set_option maxHeartbeats 8000000 in
set_option maxRecDepth 100000 in
theorem laws_heldByteS.calls (k : Nat) (A0 : Option Addr) (c0 : Nat) (l0 : List Int) (a1 : Int) (r : Int) (w : World) (hr0 : Kd.C (Kd.int .u8) w A0 l0.length l0) (hc0 : l0.length ≤ c0) (h : laws_heldByteS.f k l0 a1 = some r) :
  Calls Try.prog 50 #[.slice A0 l0.length c0, .int .i64 a1] w fun e w' => e = .returned (.int .i64 r) ∧ Drawn0 w w' := by
 have HR0 := Aside0.mk hr0
 have HC0 := Aside0.mk hc0
 clear hr0 hc0
 unfold laws_heldByteS.f at h
 have H := h
 clear h
 have H' := Aside0.mk H
 clear H
 go_enter Try.func50, Try.ntmps50
 go_wp2
 go_loopg [1, 5] k (fun kq v1 v5 w' => ∃ (x1_1 : Int) (x5_1 : Int), v1 = .int .i64 x1_1 ∧ v5 = .int .i64 x5_1 ∧ Aside0 (laws_heldByteS.l0 kq l0 x1_1 x5_1 = some r) ∧ Aside0 (kq ≤ k) ∧ Drawn0 w w')
 case atStart => exact ⟨(a1), (0), oS, oS, H', ⟨Nat.le_refl _⟩, oD⟩
 case round =>
  clear H'
  obtain ⟨x1_1, x5_1, rfl, rfl, HA, HK1, ⟨m1, rfl⟩⟩ := hrel
  cases gk with
  | zero => exact absurd HA.out (by simp [laws_heldByteS.l0])
  | succ k1 =>
   have H := HA.out
   clear HA
   simp only [laws_heldByteS.l0] at H
   replace H := itD H
   rcases H with ⟨c3b0, H⟩ | ⟨c3b0, H⟩
   ·replace H := itD H
    rcases H with ⟨c4b0, H⟩ | ⟨c4b0, H⟩
    ·by_cases c5 : (rd l0 x5_1) = ((x1_1) % 256)
     ·rw [if_pos c5] at H
      have c5b0 : ((rd l0 x5_1) == ((x1_1) % 256)) = true := beq_iff_eq.mpr c5
      have c5b1 : ((rd l0 x5_1) != ((x1_1) % 256)) = false := bne_eq_false_iff_eq.mpr c5
      clear c5
      have H' := Aside0.mk H
      clear H
      have p276 : (0 ≤ (x5_1 : Int)) = True := oT
      have q276 : (x5_1 < (l0.length : Int)) = True := oT
      obtain ⟨ad276, e276, hx276_0⟩ := Kd.at_int HR0.out x5_1 oa oa
      cases e276
      go_wp2
      go_roundg k1
      case measure => have := HK1.out; omega
      case rel => exact ⟨(wrap64 (x1_1 + 1)), (wrap64 (x5_1 + 1)), oS, oS, H', ⟨by have := HK1.out; omega⟩, oD⟩
     ·rw [if_neg c5] at H
      have c5b0 : ((rd l0 x5_1) == ((x1_1) % 256)) = false := beq_eq_false_iff_ne.mpr c5
      have c5b1 : ((rd l0 x5_1) != ((x1_1) % 256)) = true := bne_iff_ne.mpr c5
      obtain rfl := Option.some.inj H
      have p276 : (0 ≤ (x5_1 : Int)) = True := oT
      have q276 : (x5_1 < (l0.length : Int)) = True := oT
      obtain ⟨ad276, e276, hx276_0⟩ := Kd.at_int HR0.out x5_1 oa oa
      cases e276
      go_wp2
      go_ret
      exact ⟨oS, oD⟩
    ·cases H
   ·obtain rfl := Option.some.inj H
    go_wp2
    go_ret
    exact ⟨oS, oD⟩

/-! ### laws_heldEntS: function 105 -/
def laws_heldEntS.l0 : Nat → List (S83) → Int → Int → Option (Int)
 | 0, _, _, _ => none
 | k + 1, x0, x1, x5 => if x5 < (x0.length : Int) then (if 0 ≤ x5 then ((laws_markText.f k x1).bind fun t278 => (if ((rd_T83 x0 x5).f0).toList = t278.toList then (if ((rd_T83 x0 x5).f1) = (wrap64 (x1 + 1)) then (laws_heldEntS.l0 k x0 (wrap64 ((wrap64 (x1 + 1)) + 1)) (wrap64 (x5 + 1))) else (some (-1))) else (some (-1)))) else (none)) else (some x1)
def laws_heldEntS.f (k : Nat) (l0 : List (S83)) (a1 : Int) : Option (Int) := laws_heldEntS.l0 k l0 a1 0
def laws_heldEntS.T4 : Bool × List (List Nat × List Nat) := (true, [([], []), ([], []), ([0, 1], [0, 1]), ([2], [2]), ([3], [3]), ([], []), ([5], [5]), ([4, 6], [4, 6])])
def laws_heldEntS.B4 : List Nat := [0, 0, 3, 7, 15, 0, 32, 127]
theorem laws_heldEntS.tab4 : rtab .any (opsOf Try.f105 4) = laws_heldEntS.T4 := by kernel_rfl
theorem laws_heldEntS.bits4 : waitsOk laws_heldEntS.T4.2 laws_heldEntS.B4 = true := by kernel_rfl
set_option maxHeartbeats 8000000 in
set_option maxRecDepth 100000 in
theorem laws_heldEntS.calls (k : Nat) (A0 : Option Addr) (c0 : Nat) (l0 : List (S83)) (a1 : Int) (r : Int) (w : World) (hr0 : Kd.C k83 w A0 l0.length l0) (hc0 : l0.length ≤ c0) (h : laws_heldEntS.f k l0 a1 = some r) :
  Calls Try.prog 105 #[.slice A0 l0.length c0, .int .i64 a1] w fun e w' => e = .returned (.int .i64 r) ∧ Below w.heap.size w w' := by
 have HR0 := Aside0.mk hr0
 have HC0 := Aside0.mk hc0
 clear hr0 hc0
 have HB := Aside0.mk (Below.refl w.heap.size w)
 unfold laws_heldEntS.f at h
 have H := h
 clear h
 have H' := Aside0.mk H
 clear H
 go_enter Try.func105, Try.ntmps105
 go_wp2
 go_loopg [1, 5] k (fun kq v1 v5 w' => ∃ (x1_1 : Int) (x5_1 : Int), v1 = .int .i64 x1_1 ∧ v5 = .int .i64 x5_1 ∧ Aside0 (laws_heldEntS.l0 kq l0 x1_1 x5_1 = some r) ∧ Aside0 (kq ≤ k) ∧ Aside0 (Below w.heap.size w w'))
 case atStart => exact ⟨(a1), (0), oS, oS, H', ⟨Nat.le_refl _⟩, ⟨oB⟩⟩
 case round =>
  clear H'
  obtain ⟨x1_1, x5_1, rfl, rfl, HA, HK1, HB⟩ := hrel
  cases gk with
  | zero => exact absurd HA.out (by simp [laws_heldEntS.l0])
  | succ k1 =>
   have H := HA.out
   clear HA
   simp only [laws_heldEntS.l0] at H
   replace H := itD H
   rcases H with ⟨c3b0, H⟩ | ⟨c3b0, H⟩
   ·replace H := itD H
    rcases H with ⟨c4b0, H⟩ | ⟨c4b0, H⟩
    ·replace H := bA H
     obtain ⟨t278, A5, H⟩ := H
     try dsimp only at H
     by_cases c6 : ((rd_T83 l0 x5_1).f0).toList = t278.toList
     ·rw [if_pos c6] at H
      have c6b0 : (((rd_T83 l0 x5_1).f0).toList == t278.toList) = true := beq_iff_eq.mpr c6
      have c6b1 : (((rd_T83 l0 x5_1).f0).toList != t278.toList) = false := bne_eq_false_iff_eq.mpr c6
      clear c6
      by_cases c7 : ((rd_T83 l0 x5_1).f1) = (wrap64 (x1_1 + 1))
      ·rw [if_pos c7] at H
       have c7b0 : (((rd_T83 l0 x5_1).f1) == (wrap64 (x1_1 + 1))) = true := beq_iff_eq.mpr c7
       have c7b1 : (((rd_T83 l0 x5_1).f1) != (wrap64 (x1_1 + 1))) = false := bne_eq_false_iff_eq.mpr c7
       clear c7
       have H' := Aside0.mk H
       clear H
       try go_wp2
       replace HB := Aside0.mk (below_drew1 HB.out)
       have p277 : (0 ≤ (x5_1 : Int)) = True := oT
       have q277 : (x5_1 < (l0.length : Int)) = True := oT
       obtain ⟨ad277, e277, hx277_0, hx277_1⟩ := at_T83 HR0.out x5_1 oa oa
       have hw277_1 := hx277_1
       have hw277_0 := hx277_0
       cases e277
       replace hx277_0 := cB HB hx277_0
       replace hx277_1 := cB HB hx277_1
       refine st_ 8 (fun w' => w'.cell? (ad277.add ((x5_1).toNat * 2)) = some (.string ((rd_T83 l0 x5_1).f0)) ∧ w'.cell? ⟨(ad277.add ((x5_1).toNat * 2)).block, (ad277.add ((x5_1).toNat * 2)).off + 1, none⟩ = some (.int .i64 ((rd_T83 l0 x5_1).f1))) laws_heldEntS.tab4 laws_heldEntS.bits4 oH (fun hHeld HT_ HW_ => ?_)
       generalize wr.drew = w8 at HB hx277_0 hx277_1 hHeld ⊢
       refine pu_ 0 12 HT_ ?_
       refine pu_ 1 13 HT_ ?_
       refine pu_ 2 14 HT_ ?_
       refine pu_ 3 15 HT_ ?_
       refine pu_ 5 17 HT_ ?_
       refine ta_ 4 16 HT_ HW_ hHeld ?_
       refine on_ 6 18 HT_ (fun K hK => ?_)
       refine gr_ 18 Try.func132 (laws_markText.calls k1 x1_1 t278 _ A5.out) ?_
       rintro e w9 ⟨rfl, hb⟩
       refine ⟨_, rfl, ?_⟩
       replace HB := Aside0.mk (below_step oB hb)
       refine hk_ hK 18 oH (fun hHeld => ?_)
       clear hK K
       refine pu_ 7 19 HT_ ?_
       refine dn_ HT_ ?_
       have p279 : (0 ≤ (x5_1 : Int)) = True := oT
       have q279 : (x5_1 < (l0.length : Int)) = True := oT
       obtain ⟨ad279, e279, hx279_0, hx279_1⟩ := at_T83 HR0.out x5_1 oa oa
       obtain rfl : ad277 = ad279 := (by injection e279)
       replace hx279_0 := cB HB hx279_0
       replace hx279_1 := cB HB hx279_1
       try go_wp2
       go_roundg k1
       case measure => have := HK1.out; omega
       case rel => exact ⟨(wrap64 ((wrap64 (x1_1 + 1)) + 1)), (wrap64 (x5_1 + 1)), oS, oS, H', ⟨by have := HK1.out; omega⟩, ⟨oB⟩⟩
      ·rw [if_neg c7] at H
       have c7b0 : (((rd_T83 l0 x5_1).f1) == (wrap64 (x1_1 + 1))) = false := beq_eq_false_iff_ne.mpr c7
       have c7b1 : (((rd_T83 l0 x5_1).f1) != (wrap64 (x1_1 + 1))) = true := bne_iff_ne.mpr c7
       obtain rfl := Option.some.inj H
       try go_wp2
       replace HB := Aside0.mk (below_drew1 HB.out)
       have p277 : (0 ≤ (x5_1 : Int)) = True := oT
       have q277 : (x5_1 < (l0.length : Int)) = True := oT
       obtain ⟨ad277, e277, hx277_0, hx277_1⟩ := at_T83 HR0.out x5_1 oa oa
       have hw277_1 := hx277_1
       have hw277_0 := hx277_0
       cases e277
       replace hx277_0 := cB HB hx277_0
       replace hx277_1 := cB HB hx277_1
       refine st_ 8 (fun w' => w'.cell? (ad277.add ((x5_1).toNat * 2)) = some (.string ((rd_T83 l0 x5_1).f0)) ∧ w'.cell? ⟨(ad277.add ((x5_1).toNat * 2)).block, (ad277.add ((x5_1).toNat * 2)).off + 1, none⟩ = some (.int .i64 ((rd_T83 l0 x5_1).f1))) laws_heldEntS.tab4 laws_heldEntS.bits4 oH (fun hHeld HT_ HW_ => ?_)
       generalize wr.drew = w10 at HB hx277_0 hx277_1 hHeld ⊢
       refine pu_ 0 12 HT_ ?_
       refine pu_ 1 13 HT_ ?_
       refine pu_ 2 14 HT_ ?_
       refine pu_ 3 15 HT_ ?_
       refine pu_ 5 17 HT_ ?_
       refine ta_ 4 16 HT_ HW_ hHeld ?_
       refine on_ 6 18 HT_ (fun K hK => ?_)
       refine gr_ 18 Try.func132 (laws_markText.calls k1 x1_1 t278 _ A5.out) ?_
       rintro e w11 ⟨rfl, hb⟩
       refine ⟨_, rfl, ?_⟩
       replace HB := Aside0.mk (below_step oB hb)
       refine hk_ hK 18 oH (fun hHeld => ?_)
       clear hK K
       refine pu_ 7 19 HT_ ?_
       refine dn_ HT_ ?_
       have p279 : (0 ≤ (x5_1 : Int)) = True := oT
       have q279 : (x5_1 < (l0.length : Int)) = True := oT
       obtain ⟨ad279, e279, hx279_0, hx279_1⟩ := at_T83 HR0.out x5_1 oa oa
       obtain rfl : ad277 = ad279 := (by injection e279)
       replace hx279_0 := cB HB hx279_0
       replace hx279_1 := cB HB hx279_1
       try go_wp2
       go_ret
       exact ⟨oE, oB⟩
     ·rw [if_neg c6] at H
      have c6b0 : (((rd_T83 l0 x5_1).f0).toList == t278.toList) = false := beq_eq_false_iff_ne.mpr c6
      have c6b1 : (((rd_T83 l0 x5_1).f0).toList != t278.toList) = true := bne_iff_ne.mpr c6
      obtain rfl := Option.some.inj H
      try go_wp2
      replace HB := Aside0.mk (below_drew1 HB.out)
      have p277 : (0 ≤ (x5_1 : Int)) = True := oT
      have q277 : (x5_1 < (l0.length : Int)) = True := oT
      obtain ⟨ad277, e277, hx277_0, hx277_1⟩ := at_T83 HR0.out x5_1 oa oa
      have hw277_1 := hx277_1
      have hw277_0 := hx277_0
      cases e277
      replace hx277_0 := cB HB hx277_0
      replace hx277_1 := cB HB hx277_1
      refine st_ 8 (fun w' => w'.cell? (ad277.add ((x5_1).toNat * 2)) = some (.string ((rd_T83 l0 x5_1).f0)) ∧ w'.cell? ⟨(ad277.add ((x5_1).toNat * 2)).block, (ad277.add ((x5_1).toNat * 2)).off + 1, none⟩ = some (.int .i64 ((rd_T83 l0 x5_1).f1))) laws_heldEntS.tab4 laws_heldEntS.bits4 oH (fun hHeld HT_ HW_ => ?_)
      generalize wr.drew = w12 at HB hx277_0 hx277_1 hHeld ⊢
      refine pu_ 0 12 HT_ ?_
      refine pu_ 1 13 HT_ ?_
      refine pu_ 2 14 HT_ ?_
      refine pu_ 3 15 HT_ ?_
      refine pu_ 5 17 HT_ ?_
      refine ta_ 4 16 HT_ HW_ hHeld ?_
      refine on_ 6 18 HT_ (fun K hK => ?_)
      refine gr_ 18 Try.func132 (laws_markText.calls k1 x1_1 t278 _ A5.out) ?_
      rintro e w13 ⟨rfl, hb⟩
      refine ⟨_, rfl, ?_⟩
      replace HB := Aside0.mk (below_step oB hb)
      refine hk_ hK 18 oH (fun hHeld => ?_)
      clear hK K
      refine pu_ 7 19 HT_ ?_
      refine dn_ HT_ ?_
      try go_wp2
      go_ret
      exact ⟨oE, oB⟩
    ·cases H
   ·obtain rfl := Option.some.inj H
    go_wp2
    go_ret
    exact ⟨oE, oB⟩

end Go.Proofs.Ytkknehgaebhbeaa.P
