-- By this session's own program (wip/myprint.py) out of the translation; Lean checks it.
import Derived.Test.YtkcfmbggdkkfeaaGreatDoorPx0
import Derived.Test.YtkcfmbggdkkfeaaGreatDoorPx2
import Derived.Test.YtkcfmbggdkkfeaaGreatDoorPx3
import Derived.Test.YtkcfmbggdkkfeaaGreatDoorPx6
import Derived.Test.YtkcfmbggdkkfeaaGreatDoorPx8
import Derived.Test.YtkcfmbggdkkfeaaGreatDoorPx9
import Derived.Test.YtkcfmbggdkkfeaaGreatDoorPx10
namespace Go.Proofs.YtkcfmbggdkkfeaaGreatDoor.P
open Go.RowKit Go.Proofs.YtkcfmbggdkkfeaaGreatDoorW.PrintWords Go.Proofs.YtkcfmbggdkkfeaaGreatDoorW.PrintLast Go.Proofs.YtkcfmbggdkkfeaaGreatDoorW.PrintMore
attribute [local go_sem] max2_int min2_int max_two min_two max_three min_three max_four min_four   -- for this text's walks alone
set_option linter.unusedVariables false
set_option linter.unusedSimpArgs false

/-! ### impl_spot_enter: function 59 -/
def gtS (a b : ByteArray) : Bool := !(Op.bytesLess a.toList b.toList || a.toList == b.toList)
def gtN (s : ByteArray) : List S65 → Nat → Int
 | [], _ => -1
 | x :: l, i => if gtS x.f0 s = true then (i : Int) else gtN s l (i + 1)
theorem entGt1.calls (s a : ByteArray) (b : Int) (B : Nat) (W : World) (hB : B < W.heap.size) (hc : W.cell? ⟨B, 6, none⟩ = some (.string s)) :
  Calls Tryz.prog 80 #[.agg #[.string a, .int .i64 b], .pointer (some ⟨B, 0, none⟩)] W fun e w' => e = .returned (.bool (gtS a s)) ∧ Below W.heap.size W w' := by
 have hne : B ≠ W.heap.size := by omega
 go_enter Tryz.func80, Tryz.ntmps80
 go_wp2
 all_goals (go_ret; exact ⟨by simp_all [gtS], (Below.refl _ W).alloc (Nat.le_refl _) _⟩)
theorem erd_at (l : List S65) (k : Nat) (h : k < l.length) : rd_T65 l (k : Int) = l[k] := by
 simp [rd_T65, List.getD_eq_getElem?_getD, List.getElem?_eq_getElem h]
theorem gtN_hit (s : ByteArray) (l : List S65) (k j : Nat) (h : k < l.length) (hit : gtS (rd_T65 l (k : Int)).f0 s = true) : gtN s (l.drop k) j = (j : Int) := by
 rw [List.drop_eq_getElem_cons h, gtN, if_pos (by rw [← erd_at l k h]; exact hit)]
theorem gtN_miss (s : ByteArray) (l : List S65) (k j : Nat) (h : k < l.length) (hit : gtS (rd_T65 l (k : Int)).f0 s = false) : gtN s (l.drop k) j = gtN s (l.drop (k + 1)) (j + 1) := by
 rw [List.drop_eq_getElem_cons h, gtN, if_neg (by rw [← erd_at l k h, hit]; decide)]
set_option maxHeartbeats 400000 in
set_option maxRecDepth 100000 in
theorem entGt2.calls (s : ByteArray) (A0 : Option Addr) (c0 : Nat) (l : List S65) (B : Nat) (w : World) (hr : k65.C w A0 l.length l) (hB : B < w.heap.size) (hc : w.cell? ⟨B, 6, none⟩ = some (.string s)) (hl : l.length ≤ 9223372036854775807) :
  Calls Tryz.prog 79 #[.slice A0 l.length c0, .func (.func 80) #[] #[.pointer (some ⟨B, 0, none⟩)]] w fun e w' => e = .returned (.int .i64 (gtN s l 0)) ∧ Below w.heap.size w w' := by
 go_enter Tryz.func79, Tryz.ntmps79
 go_wp2
 go_loopg [5, 8] l.length (fun gg _ s8 wr => ∃ kk : Nat, kk ≤ l.length ∧ l.length - kk ≤ gg ∧ s8 = .int .i64 kk ∧ Aside0 (Below w.heap.size w wr) ∧ Aside0 (gtN s l 0 = gtN s (l.drop kk) kk))
 case atStart => exact ⟨0, Nat.zero_le _, by omega, rfl, ⟨Below.refl _ w⟩, ⟨rfl⟩⟩
 case round =>
  obtain ⟨kk, hkk, hg, rfl, BW, A⟩ := hrel
  by_cases hlt : kk < l.length
  ·have hltz : (kk : Int) < (l.length : Int) := by omega
   obtain ⟨ad, e0, h0, h1⟩ := at_T65 (Kd.C_below hr BW.out) (kk : Int) (by omega) hltz
   cases e0
   rw [Int.toNat_natCast] at h0 h1
   have hBw : B < wr.heap.size := Nat.lt_of_lt_of_le hB BW.out.size
   have hcw : wr.cell? ⟨B, 6, none⟩ = some (.string s) := (BW.out.cell (p := ⟨B, 6, none⟩) hB).trans hc
   cases hq : gtS (rd_T65 l (kk : Int)).f0 s with
   | true =>
    go_wp2_with (go_at_call 80; refine (entGt1.calls s _ _ B wr hBw hcw).mono ?_; rintro e w' ⟨rfl, hb'⟩; rw [hq])
    go_ret
    exact ⟨by rw [A.out, gtN_hit s l kk kk hlt hq]; rfl, below_then BW.out BW.out.size hb'⟩
   | false =>
    go_wp2_with (go_at_call 80; refine (entGt1.calls s _ _ B wr hBw hcw).mono ?_; rintro e w' ⟨rfl, hb'⟩; rw [hq])
    go_roundg (l.length - (kk + 1))
    case measure => omega
    case rel => exact ⟨kk + 1, by omega, by omega, by go_num, ⟨below_then BW.out BW.out.size hb'⟩, ⟨by rw [A.out, gtN_miss s l kk kk hlt hq]⟩⟩
  ·have hltz : ¬ (kk : Int) < (l.length : Int) := by omega
   obtain rfl : kk = l.length := by omega
   go_wp2
   go_ret
   exact ⟨by rw [A.out, List.drop_length]; rfl, BW.out⟩
theorem gtN_spec (s : ByteArray) (l : List S65) : ∀ j : Nat, gtN s l j = -1 ∨ ∃ i : Nat, gtN s l j = ((j + i : Nat) : Int) ∧ i < l.length := by
 induction l with
 | nil => intro j; exact .inl rfl
 | cons x l ih =>
  intro j
  rw [gtN]
  split
  ·exact .inr ⟨0, by simp, by simp⟩
  ·rcases ih (j + 1) with h | ⟨i, h, hi⟩
   ·exact .inl h
   ·exact .inr ⟨i + 1, by rw [h]; omega, by simp only [List.length_cons]; omega⟩
def posN (s : ByteArray) (l : List S65) : Nat := if gtN s l 0 < 0 then l.length else (gtN s l 0).toNat
def encE (x : S65) : List Value := [.string x.f0, .int .i64 x.f1]
def impl_spot_enter.f (k : Nat) (a0_0 a0_1 a0_2 : Int) (l0_3 : List Int) (l0_4 : List S65) (l0_5 : List S71) (a0_6 : ByteArray) (l1_0 : List S51) (a1_1 a2 : Int) : Option (List S51 × Int) :=
 (slices_Clone_Ent.f l0_4).bind fun y => if posN a0_6 l0_4 ≤ y.length ∧ (y.length + 1) * 24 ≤ 140737488355328 ∧ l0_4.length ≤ 9223372036854775807 then impl_SetInode.f k l1_0 a1_1 a0_0 a0_1 a0_2 l0_3 (y.take (posN a0_6 l0_4) ++ [⟨a0_6, a2⟩] ++ y.drop (posN a0_6 l0_4)) l0_5 else none
set_option maxHeartbeats 4000000 in
set_option maxRecDepth 100000 in
theorem impl_spot_enter.calls (k : Nat) (a0_0 a0_1 a0_2 : Int) (A0_3 : Option Addr) (c0_3 : Nat) (l0_3 : List Int) (A0_4 : Option Addr) (c0_4 : Nat) (l0_4 : List S65) (A0_5 : Option Addr) (c0_5 : Nat) (l0_5 : List S71) (a0_6 : ByteArray) (A1_0 : Option Addr) (c1_0 : Nat) (l1_0 : List S51) (a1_1 a2 : Int) (r1 : List S51) (r2 : Int) (w : World)
  (hr0_3 : Kd.C (Kd.int .u8) w A0_3 l0_3.length l0_3) (hc0_3 : l0_3.length ≤ c0_3) (hr0_4 : Kd.C k65 w A0_4 l0_4.length l0_4) (hc0_4 : l0_4.length ≤ c0_4) (hr0_5 : Kd.C k71 w A0_5 l0_5.length l0_5) (hc0_5 : l0_5.length ≤ c0_5) (hr1_0 : Kd.C k51 w A1_0 l1_0.length l1_0) (hc1_0 : l1_0.length ≤ c1_0) (h : impl_spot_enter.f k a0_0 a0_1 a0_2 l0_3 l0_4 l0_5 a0_6 l1_0 a1_1 a2 = some (r1, r2)) :
  Calls Tryz.prog 59 #[.agg #[.int .i64 a0_0, .int .i64 a0_1, .int .i64 a0_2, .slice A0_3 l0_3.length c0_3, .slice A0_4 l0_4.length c0_4, .slice A0_5 l0_5.length c0_5, .string a0_6], .agg #[.slice A1_0 l1_0.length c1_0, .int .i64 a1_1], .int .i64 a2] w fun e w' => ∃ v0_ : Value, e = .returned (.agg #[v0_, .int .i64 r2]) ∧ Kd.S k51 51 w' w.heap.size (fun _ => True) v0_ r1 ∧ Below w.heap.size w w' := by
 unfold impl_spot_enter.f at h
 replace h := bA h
 obtain ⟨y, H1, h⟩ := h
 split at h
 case isFalse => cases h
 case isTrue hl =>
 have HPY := Aside0.mk hl.1
 have H24 := Aside0.mk hl.2.1
 have HL4 := Aside0.mk hl.2.2
 obtain ⟨Y, hY⟩ : ∃ Y, Y = (y.take (posN a0_6 l0_4) ++ [(⟨a0_6, a2⟩ : S65)] ++ y.drop (posN a0_6 l0_4)) := ⟨_, rfl⟩
 rw [← hY] at h
 have HY := Aside0.mk hY
 have H2 := Aside0.mk h
 have HR3 := Aside0.mk hr0_3
 have HC3 := Aside0.mk hc0_3
 have HR4 := Aside0.mk hr0_4
 have HC4 := Aside0.mk hc0_4
 have HR5 := Aside0.mk hr0_5
 have HC5 := Aside0.mk hc0_5
 have HR0 := Aside0.mk hr1_0
 have HC0 := Aside0.mk hc1_0
 clear hl h hY hr0_3 hc0_3 hr0_4 hc0_4 hr0_5 hc0_5 hr1_0 hc1_0
 have HB := Aside0.mk (Below.refl w.heap.size w)
 go_enter Tryz.func59, Tryz.ntmps59
 go_upto_if 14 with (first | ((with_reducible refine gate_dst (N := 3) rfl ?_); refine bx_ 3 #[.int .i64 a0_0, .int .i64 a0_1, .int .i64 a0_2, .slice A0_3 l0_3.length c0_3, .slice A0_4 l0_4.length c0_4, .slice A0_5 l0_5.length c0_5, .string a0_6] 84 ?_; intro gb3 hg w1 hbox hb; have BK3 := Aside0.mk hbox; have GW3 := gs_ hg; replace HB := Aside0.mk (below_step oB hb); clear hb hbox hg) | ((with_reducible refine gate_dst (N := 4) rfl ?_); refine bx_ 4 #[.slice A1_0 l1_0.length c1_0, .int .i64 a1_1] 26 ?_; intro gb4 hg w2 hbox hb; have BK4 := Aside0.mk hbox; have GW4 := gs_ hg; have NB34 := nl_ hg BK3; have NB43 := nr_ hg BK3; replace BK3 := kb_ BK3 hb; replace HB := Aside0.mk (below_step oB hb); clear hb hbox hg) | ((with_reducible refine gate_dst (N := 6) rfl ?_); refine bx_ 6 #[.slice none 0 0, .int .i64 0] 26 ?_; intro gb6 hg w3 hbox hb; have BK6 := Aside0.mk hbox; have GW6 := gs_ hg; have NB36 := nl_ hg BK3; have NB63 := nr_ hg BK3; have NB46 := nl_ hg BK4; have NB64 := nr_ hg BK4; replace BK3 := kb_ BK3 hb; replace BK4 := kb_ BK4 hb; replace HB := Aside0.mk (below_step oB hb); clear hb hbox hg; obtain ⟨⟨_, _, _, _, _, _, _⟩, _, _, _, _, _, _, _⟩ := z7 BK3) | (go_at_call 79; refine (entGt2.calls a0_6 A0_4 c0_4 l0_4 gb3 _ (kC HR4) (blk_lt (oF BK3)) ((blk_cell (oF BK3) 6).trans rfl) HL4.out).mono ?_; rintro e w4 ⟨rfl, hb⟩; replace BK3 := kb_ BK3 hb; replace BK4 := kb_ BK4 hb; replace BK6 := kb_ BK6 hb; replace HB := Aside0.mk (below_step oB hb); clear hb))
 (try simp only [Act.put, List.setIfInBounds_toArray, List.set_cons_zero, List.set_cons_succ])
 go_cut [7] (fun v7 wc => v7 = .int .i64 ((posN a0_6 l0_4 : Nat) : Int) ∧ Aside0 (wc.heap[gb3]? = some (.cells #[.int .i64 a0_0, .int .i64 a0_1, .int .i64 a0_2, .slice A0_3 l0_3.length c0_3, .slice A0_4 l0_4.length c0_4, .slice A0_5 l0_5.length c0_5, .string a0_6] 84 (0, 0))) ∧ Aside0 (wc.heap[gb4]? = some (.cells #[.slice A1_0 l1_0.length c1_0, .int .i64 a1_1] 26 (0, 0))) ∧ Aside0 (wc.heap[gb6]? = some (.cells #[.slice none 0 0, .int .i64 0] 26 (0, 0))) ∧ Aside0 (Below w.heap.size w wc))
 case first =>
  obtain ⟨⟨_, _, _, _, _, _, _⟩, _, _, _, _, _, _, _⟩ := z7 BK3
  rcases gtN_spec a0_6 l0_4 0 with hgt | ⟨j, hgt, hj⟩
  ·have hpo : posN a0_6 l0_4 = l0_4.length := by unfold posN; rw [hgt]; rfl
   have hj0 : decide ((-1 : Int) < 0) = true := rfl
   rw [hgt]
   go_wp2
   go_meet
   case rel => exact ⟨by rw [hpo], ⟨oF BK3⟩, ⟨oF BK4⟩, ⟨oF BK6⟩, ⟨oB⟩⟩
  ·have hpo : posN a0_6 l0_4 = j := by unfold posN; rw [hgt, if_neg (by omega)]; omega
   have hj0 : decide (((0 + j : Nat) : Int) < 0) = false := decide_eq_false (by omega)
   rw [hgt]
   go_wp2
   go_meet
   case rel => exact ⟨by rw [hpo, Nat.zero_add], ⟨oF BK3⟩, ⟨oF BK4⟩, ⟨oF BK6⟩, ⟨oB⟩⟩
 case rest =>
  obtain ⟨rfl, BK3, BK4, BK6, HB⟩ := hcut
  try go_wp2
  replace BK3 := Aside0.mk (blk_drew BK3.out)
  replace BK4 := Aside0.mk (blk_drew BK4.out)
  replace BK6 := Aside0.mk (blk_drew BK6.out)
  replace HB := Aside0.mk (below_drew1 HB.out)
  refine start_ (n := 14) (S := fun w' => w'.cell? ⟨gb3, 4, none⟩ = some (.slice A0_4 l0_4.length c0_4) ∧ w'.cell? ⟨gb3, 6, none⟩ = some (.string a0_6)) (ds := [13]) (lb 14 0) (by kernel_rfl) rfl rfl oH (fun hHeld => ?_)
  generalize wc.drew = w5 at BK3 BK4 BK6 HB hHeld ⊢
  refine p0_ 0 19 ?_
  refine p0_ 1 20 ?_
  refine t0_ 2 21 hHeld ?_
  refine p0_ 4 23 ?_
  refine p0_ 5 24 ?_
  refine t0_ 6 25 hHeld ?_
  refine p0_ 7 26 ?_
  refine p0_ 8 27 ?_
  refine join_ (σ := Value × Nat) 4 (lb 14 1023) (fun s_ => [(22, s_.1), (28, .slice (some ⟨s_.2, 0, none⟩) 1 1)]) (fun s_ w' => (w'.cell? ⟨gb3, 4, none⟩ = some (.slice A0_4 l0_4.length c0_4) ∧ w'.cell? ⟨gb3, 6, none⟩ = some (.string a0_6)) ∧ Kd.R k65 65 w' w.heap.size (fun k_ => k_ ≠ gb3 ∧ k_ ≠ gb4 ∧ k_ ≠ gb6 ∧ k_ ≠ s_.2) s_.1 y ∧ w'.heap[s_.2]? = some (.cells #[.string a0_6, .int .i64 a2] 65 (0, 0)) ∧ w'.heap[gb3]? = some (.cells #[.int .i64 a0_0, .int .i64 a0_1, .int .i64 a0_2, .slice A0_3 l0_3.length c0_3, .slice A0_4 l0_4.length c0_4, .slice A0_5 l0_5.length c0_5, .string a0_6] 84 (0, 0)) ∧ w'.heap[gb4]? = some (.cells #[.slice A1_0 l1_0.length c1_0, .int .i64 a1_1] 26 (0, 0)) ∧ w'.heap[gb6]? = some (.cells #[.slice none 0 0, .int .i64 0] 26 (0, 0)) ∧ Below w.heap.size w w') ?_ ?_
  rotate_left
  ·intro hCont
   refine two_ (i := 3) (j := 9) (Ni := some 22) (Nj := some 28) (lb 14 511) (lb 14 1015) rfl rfl rfl rfl (by kernel_rfl) (by decide) (by decide) (fun K hK => ?_) (fun K hK => ?_)
   ·refine gr_ 22 Tryz.func82 (slices_Clone_Ent.calls _ _ l0_4 y _ (kC HR4) HC4.out H1.out) ?_
    rintro e w6 ⟨v22, rfl, ho, hb⟩
    refine ⟨_, rfl, ?_⟩
    have HO := Aside0.mk (Kd.R_lower (Kd.R_newB (Kd.R_newB (Kd.R_newB ho (oF BK3)) (oF BK4)) (oF BK6)) (below_size oB))
    replace BK3 := kb_ BK3 hb
    replace BK4 := kb_ BK4 hb
    replace BK6 := kb_ BK6 hb
    replace HB := Aside0.mk (below_step oB hb)
    clear hb ho
    refine hk_ hK 22 oH (fun hHeld => ?_)
    clear hK K
    refine o0_ 9 28 (fun K hK => ?_)
    refine event_step (v := .slice (some ⟨w6.heap.size, 0, none⟩) 1 1) (w1 := w6.alloc (.cells #[.string a0_6, .int .i64 a2] 65)) (by rfl) (by first | (go_simp; done) | (go_simp; rfl)) ?_
    refine hk_ hK 28 ⟨(World.cell?_alloc_lt _ _ _ (blk_lt BK3.out)).trans hHeld.1, (World.cell?_alloc_lt _ _ _ (blk_lt BK3.out)).trans hHeld.2⟩ (fun hHeld => ?_)
    clear hK K
    exact norm_ (by simp only [putAll, Act.put, List.setIfInBounds_toArray, List.set_cons_zero, List.set_cons_succ]) (hCont (v22, w6.heap.size) _ ⟨hHeld, Kd.R_alloc (Kd.R_mono (Kd.R_bound HO.out) (fun _ hk => ⟨hk.1.1.1.2, hk.1.1.2, hk.1.2, Nat.ne_of_lt hk.2.2.1⟩)) _, blk_new _ _, blk_alloc BK3.out _, blk_alloc BK4.out _, blk_alloc BK6.out _, below_alloc HB.out _⟩)
   ·refine event_step (v := .slice (some ⟨w5.heap.size, 0, none⟩) 1 1) (w1 := w5.alloc (.cells #[.string a0_6, .int .i64 a2] 65)) (by rfl) (by first | (go_simp; done) | (go_simp; rfl)) ?_
    refine hk_ hK 28 ⟨(World.cell?_alloc_lt _ _ _ (blk_lt BK3.out)).trans hHeld.1, (World.cell?_alloc_lt _ _ _ (blk_lt BK3.out)).trans hHeld.2⟩ (fun hHeld => ?_)
    clear hK K
    have BK9 := Aside0.mk (blk_new w5 (.cells #[.string a0_6, .int .i64 a2] 65))
    replace BK3 := Aside0.mk (blk_alloc BK3.out (.cells #[.string a0_6, .int .i64 a2] 65))
    replace BK4 := Aside0.mk (blk_alloc BK4.out (.cells #[.string a0_6, .int .i64 a2] 65))
    replace BK6 := Aside0.mk (blk_alloc BK6.out (.cells #[.string a0_6, .int .i64 a2] 65))
    replace HB := Aside0.mk (below_alloc HB.out (.cells #[.string a0_6, .int .i64 a2] 65))
    generalize w5.alloc (.cells #[.string a0_6, .int .i64 a2] 65) = w6 at BK3 BK4 BK6 BK9 HB hHeld ⊢
    refine o0_ 3 22 (fun K hK => ?_)
    refine gr_ 22 Tryz.func82 (slices_Clone_Ent.calls _ _ l0_4 y _ (kC HR4) HC4.out H1.out) ?_
    rintro e w7 ⟨v22, rfl, ho, hb⟩
    refine ⟨_, rfl, ?_⟩
    have HO := Aside0.mk (Kd.R_lower (Kd.R_newB (Kd.R_newB (Kd.R_newB (Kd.R_newB ho (oF BK3)) (oF BK4)) (oF BK6)) (oF BK9)) (below_size oB))
    replace BK3 := kb_ BK3 hb
    replace BK4 := kb_ BK4 hb
    replace BK6 := kb_ BK6 hb
    replace BK9 := kb_ BK9 hb
    replace HB := Aside0.mk (below_step oB hb)
    clear hb ho
    refine hk_ hK 22 oH (fun hHeld => ?_)
    clear hK K
    exact norm_ (by simp only [putAll, Act.put, List.setIfInBounds_toArray, List.set_cons_zero, List.set_cons_succ]) (hCont (v22, w5.heap.size) _ ⟨hHeld, Kd.R_mono HO.out (fun _ hk => ⟨hk.1.1.1.2, hk.1.1.2, hk.1.2, hk.2⟩), BK9.out, BK3.out, BK4.out, BK6.out, HB.out⟩)
  clear BK3 BK4 BK6 HB hHeld
  rintro ⟨v22, g9⟩ w7 ⟨hHeld, hR, hG, b3, b4, b6, hB⟩
  dsimp only at hR hG
  have BK3 := Aside0.mk b3
  have BK4 := Aside0.mk b4
  have BK6 := Aside0.mk b6
  have HB := Aside0.mk hB
  clear b3 b4 b6 hB
  obtain ⟨A9, c9, rfl⟩ := Kd.R_slice hR
  refine norm_ (a' := ?_) ?_ ?_
  rotate_left
  ·simp only [putAll, Act.put, List.setIfInBounds_toArray, List.set_cons_zero, List.set_cons_succ]
   rfl
  refine o0_ 10 29 (fun K hK => ?_)
  refine gr_ 29 Tryz.func81 (insEnt.calls A9 y.length c9 (posN a0_6 l0_4) g9 w.heap.size _ (y.map encE) [.string a0_6, .int .i64 a2] w _ HPY.out (List.length_map ..) (rawR (d := k65) encE (fun _ _ _ _ _ h => k65_openM h) hR) hG (Kd.R_away hR (fun _ hk => hk.2.2.2)) rfl (by simp; exact ⟨rfl, rfl⟩) HB.out (below_size HB.out) H24.out) ?_
  rintro e w8 ⟨v', rfl, hr8, hb8, hg8, hat8⟩
  refine ⟨_, rfl, ?_⟩
  rw [show (y.map encE).take (posN a0_6 l0_4) ++ [[.string a0_6, .int .i64 a2]] ++ (y.map encE).drop (posN a0_6 l0_4) = Y.map encE from by rw [HY.out]; simp [List.map_take, List.map_drop, encE]] at hr8
  have HR8 := Aside0.mk (Kd.R_mono (ok' := fun k_ => k_ ≠ gb3 ∧ k_ ≠ gb4 ∧ k_ ≠ gb6) (unrawR (d := k65) encE (fun _ _ _ x => k65_mkM _ _ _ x) hr8) (fun k_ hk => by
   have l3 := blk_lt BK3.out
   have l4 := blk_lt BK4.out
   have l6 := blk_lt BK6.out
   rcases hk with h | h
   ·have := hR.1 k_ h.symm
    exact ⟨this.1, this.2.1, this.2.2.1⟩
   ·exact ⟨by omega, by omega, by omega⟩))
  replace BK3 := Aside0.mk (blk_grown BK3.out hg8 (Kd.R_away hR (fun _ hk => hk.1)))
  replace BK4 := Aside0.mk (blk_grown BK4.out hg8 (Kd.R_away hR (fun _ hk => hk.2.1)))
  replace BK6 := Aside0.mk (blk_grown BK6.out hg8 (Kd.R_away hR (fun _ hk => hk.2.2.1)))
  replace HB := Aside0.mk hb8
  obtain ⟨A8, c8, rfl⟩ := Kd.R_slice HR8.out
  clear hr8 hb8 hg8 hat8 hR hG hHeld
  refine hk_ hK 29 oH (fun hHeld => ?_)
  clear hK K
  refine p0_ 11 30 ?_
  refine p0_ 12 31 ?_
  refine last_ (i := 13) (N := none) (lb 14 16383) rfl rfl (by kernel_rfl) (by decide) (fun K hK => ?_)
  obtain ⟨⟨_, _, _, _, _, _, _⟩, _, _, _, _, _, _, _⟩ := z7 BK3
  refine skip_ (w1 := ?_) (by rfl) rfl ?_ ?_
  rotate_left
  ·go_simp
   rfl
  refine hK.out _ _ ?_
  clear hK K
  refine done_ (by kernel_rfl) ?_
  have n3_ : Aside0 ((w8.setCell ⟨gb3, 4, none⟩ (.slice A8 Y.length c8)).heap[gb3]? = some (.cells #[.int .i64 a0_0, .int .i64 a0_1, .int .i64 a0_2, .slice A0_3 l0_3.length c0_3, .slice A8 Y.length c8, .slice A0_5 l0_5.length c0_5, .string a0_6] 84 (0, 0))) := ⟨oP BK3⟩
  have n4_ := Aside0.mk (Kd.R_far (p := ⟨gb3, 4, none⟩) HR8.out (fun _ hk => hk.1) (.slice A8 Y.length c8))
  generalize hW_ : w8.setCell ⟨gb3, 4, none⟩ (.slice A8 Y.length c8) = w9 at n3_ n4_ ⊢
  replace BK4 := kw_ hW_ BK4
  replace BK6 := kw_ hW_ BK6
  replace HB := hw_ hW_ HB
  clear BK3 HR8 hW_
  obtain ⟨⟨_, _, _, _, _, _, _⟩, _, _, _, _, _, _, _⟩ := z7 n3_
  obtain ⟨⟨_, _⟩, _, _⟩ := z2 BK4
  go_wp2_with ((with_reducible refine gate_callee (f := 50) rfl ?_); refine gl_ 35 Tryz.func50 (impl_SetInode.calls k _ _ l1_0 a1_1 a0_0 a0_1 a0_2 _ _ l0_3 _ _ Y _ _ l0_5 r1 r2 _ (kC HR0) HC0.out (kC HR3) HC3.out (kO n4_) (ko n4_) (kC HR5) HC5.out H2.out) ?_; rintro e w10 ⟨v0, rfl, hs, hb⟩; refine ⟨_, rfl, ?_⟩; obtain ⟨A0, c0, rfl⟩ := Kd.S_slice hs; have HS := siv' hs w9.heap.size w.heap.size (Nat.le_refl _) (below_size HB.out); have hl6 := Aside0.mk (blk_lt BK6.out); replace BK6 := kb_ BK6 hb; replace HB := Aside0.mk (below_step oB hb); clear hs hb; obtain ⟨⟨_, _⟩, _, _⟩ := z2 BK6)
  refine bodyPost_ret (results_cell_row rfl _ _ gb6 26 #[.slice A0 r1.length c0, .int .i64 r2] (0, 0) _ rfl (oP BK6) Tryz.underlying26 rfl (by kernel_rfl)) rfl ?_
  exact ⟨_, rfl, Kd.S_mono (Kd.S_far (Kd.S_far HS.out (fun k_ hk => by have := hk.1; have := hl6.out; dsimp only; omega) _) (fun k_ hk => by have := hk.1; have := hl6.out; dsimp only; omega) _) (fun _ _ => trivial), oB⟩
/-! ### impl_Stat: function 28 -/
def impl_Stat.f (k : Nat) (l0_0 : List (S51)) (a0_1 : Int) (a1 : ByteArray) : Option (Int × Int × Int × List Int × (List (S65)) × (List (S71)) × Int) := (impl_Walk.f k l0_0 a0_1 a1).bind fun bt308 => (if bt308.2 = 0 then ((impl_InodeAt.f k l0_0 a0_1 bt308.1).bind fun bt310 => (if bt310.2.2.2.2.2.2 = true then (some (bt310.1, bt310.2.1, bt310.2.2.1, bt310.2.2.2.1, bt310.2.2.2.2.1, bt310.2.2.2.2.2.1, 0)) else (some (0, 0, 0, ([] : List Int), ([] : List (S65)), ([] : List (S71)), 2)))) else (some (0, 0, 0, ([] : List Int), ([] : List (S65)), ([] : List (S71)), bt308.2)))
set_option maxHeartbeats 8000000 in
set_option maxRecDepth 100000 in
theorem impl_Stat.calls (k : Nat) (A0_0 : Option Addr) (c0_0 : Nat) (l0_0 : List (S51)) (a0_1 : Int) (a1 : ByteArray) (r1 : Int) (r2 : Int) (r3 : Int) (r4 : List Int) (r5 : List (S65)) (r6 : List (S71)) (r7 : Int) (w : World) (hr0_0 : Kd.C k51 w A0_0 l0_0.length l0_0) (hc0_0 : l0_0.length ≤ c0_0) (h : impl_Stat.f k l0_0 a0_1 a1 = some (r1, r2, r3, r4, r5, r6, r7)) (hG : GOk w := by exact gk_ oB (by first | (with_reducible assumption) | assumption)) :
  Calls Tryz.prog 28 #[.agg #[.slice A0_0 l0_0.length c0_0, .int .i64 a0_1], .string a1] w fun e w' => ∃ v3_ v4_ v5_ : Value, e = .returned (.tuple #[.agg #[.int .i64 r1, .int .i64 r2, .int .i64 r3, v3_, v4_, v5_], .int .i64 r7]) ∧ Kd.R (Kd.int .u8) 5 w' w.heap.size (fun _ => True) v3_ r4 ∧ Kd.R k65 65 w' w.heap.size (fun _ => True) v4_ r5 ∧ Kd.R k71 71 w' w.heap.size (fun _ => True) v5_ r6 ∧ Below w.heap.size w w' := by
 have HG := Aside0.mk hG
 clear hG
 have hu26 := Tryz.underlying26
 have hu51 := Tryz.underlying51
 have HR0_0 := Aside0.mk hr0_0
 have HC0_0 := Aside0.mk hc0_0
 clear hr0_0 hc0_0
 have HB := Aside0.mk (Below.refl w.heap.size w)
 unfold impl_Stat.f at h
 have H := h
 clear h
 replace H := bA H
 obtain ⟨⟨t308, t309⟩, A3, H⟩ := H
 try dsimp only at H
 by_cases c4 : t309 = 0
 ·rw [if_pos c4] at H
  have c4b0 : (t309 == 0) = true := beq_iff_eq.mpr c4
  have c4b1 : (t309 != 0) = false := bne_eq_false_iff_eq.mpr c4
  clear c4
  replace H := bA H
  obtain ⟨⟨t310, t311, t312, t313, t316, t319, t322⟩, A5, H⟩ := H
  try dsimp only at H
  replace H := itB H
  rcases H with ⟨rfl, H⟩ | ⟨rfl, H⟩
  ·simp only [Option.some.injEq, Prod.mk.injEq] at H
   obtain ⟨rfl, rfl, rfl, rfl, rfl, rfl, rfl⟩ := H
   go_enter Tryz.func28, Tryz.ntmps28
   go_wp2_with (first | ((with_reducible refine gate_dst (N := 2) rfl ?_); refine bx_ 2 #[.slice A0_0 l0_0.length c0_0, .int .i64 a0_1] 26 ?_; intro gb306 hg w7 hbox hb; have BK306 := Aside0.mk (hbox); have GW306 := gs_ hg; replace HB := Aside0.mk (below_step oB hb); clear hb hbox hg) | ((with_reducible refine gate_dst (N := 4) rfl ?_); refine bx_ 4 #[.int .i64 0, .int .i64 0, .int .i64 0, .slice none 0 0, .slice none 0 0, .slice none 0 0] 51 ?_; intro gb307 hg w8 hbox hb; have BK307 := Aside0.mk (hbox); have GW307 := gs_ hg; have NB306_307 := nl_ hg BK306; have NB307_306 := nr_ hg BK306; replace BK306 := kb_ BK306 hb; replace HB := Aside0.mk (below_step oB hb); clear hb hbox hg; have hnb9 := NB306_307.out; have hnc9 := NB307_306.out; obtain ⟨⟨_, _⟩, _, _⟩ := z2 BK306) | ((with_reducible refine gate_callee (f := 31) rfl ?_); refine gl_ 13 Tryz.func31 (impl_Walk.calls k _ _ l0_0 a0_1 a1 t308 t309 _ (kC HR0_0) HC0_0.out A3.out) ?_; rintro e w11 ⟨rfl, hb⟩; refine ⟨_, rfl, ?_⟩; replace BK306 := kb_ BK306 hb; replace BK307 := kb_ BK307 hb; replace HB := Aside0.mk (below_step oB hb); obtain ⟨⟨_, _⟩, _, _⟩ := z2 BK306) | ((with_reducible refine gate_callee (f := 42) rfl ?_); refine gl_ 23 Tryz.func42 (impl_InodeAt.calls k _ _ l0_0 a0_1 t308 t310 t311 t312 t313 t316 t319 true _ (kC HR0_0) HC0_0.out A5.out) ?_; rintro e w13 ⟨v314, v317, v320, rfl, ho0, ho1, ho2, hb⟩; refine ⟨_, rfl, ?_⟩; have HO315 := Aside0.mk (Kd.R_lower ho0 (below_size oB)); have HO318 := Aside0.mk (Kd.R_lower ho1 (below_size oB)); have HO321 := Aside0.mk (Kd.R_lower ho2 (below_size oB)); replace BK306 := kb_ BK306 hb; replace BK307 := kb_ BK307 hb; replace HB := Aside0.mk (below_step oB hb); (try clear ho1); (try clear ho2)) | ((with_reducible refine gate_dst (N := 8) rfl ?_); refine bx_ 8 #[.int .i64 0, .int .i64 0, .int .i64 0, .slice none 0 0, .slice none 0 0, .slice none 0 0] 51 ?_; intro gb323 hg w14 hbox hb; have BK323 := Aside0.mk (hbox); have GW323 := gs_ hg; have NB306_323 := nl_ hg BK306; have NB323_306 := nr_ hg BK306; have NB307_323 := nl_ hg BK307; have NB323_307 := nr_ hg BK307; replace HO315 := kr_ HO315 hb; replace HO318 := kr_ HO318 hb; replace HO321 := kr_ HO321 hb; replace BK306 := kb_ BK306 hb; replace BK307 := kb_ BK307 hb; replace HB := Aside0.mk (below_step oB hb); clear hb hbox hg; have hnb15 := NB323_306.out; have hnc15 := NB306_323.out; have hnb16 := NB323_307.out; have hnc16 := NB307_323.out; obtain ⟨⟨_, _, _, _, _, _⟩, _, _, _, _, _, _⟩ := z6 BK323; obtain ⟨Ao18, co18, eo18⟩ := Kd.R_slice HO315.out; subst eo18; obtain ⟨Ao19, co19, eo19⟩ := Kd.R_slice HO318.out; subst eo19; obtain ⟨Ao20, co20, eo20⟩ := Kd.R_slice HO321.out; subst eo20; obtain ⟨⟨_, _, _, _, _, _⟩, _, _, _, _, _, _⟩ := z6 BK307))
   refine bodyPost_ret (results_ct rfl _ _ gb307 51 #[.int .i64 t310, .int .i64 t311, .int .i64 t312, .slice Ao18 t313.length co18, .slice Ao19 t316.length co19, .slice Ao20 t319.length co20] (0, 0) _ rfl (oP BK307) Tryz.underlying51 rfl (by kernel_rfl)) rfl ?_
   exact ⟨_, _, _, oE, by (with_reducible repeat (first | apply Kd.R_alloc | apply Kd.R_drewN | apply Kd.R_drew)); exact Kd.R_mono (Kd.R_far (p := ⟨gb307, 5, none⟩) (Kd.R_far (p := ⟨gb307, 4, none⟩) (Kd.R_far (p := ⟨gb307, 3, none⟩) (Kd.R_far (p := ⟨gb307, 2, none⟩) (Kd.R_far (p := ⟨gb307, 1, none⟩) (Kd.R_far (p := ⟨gb307, 0, none⟩) (Kd.R_far (p := ⟨gb323, 5, none⟩) (Kd.R_far (p := ⟨gb323, 4, none⟩) (Kd.R_far (p := ⟨gb323, 3, none⟩) (Kd.R_far (p := ⟨gb323, 2, none⟩) (Kd.R_far (p := ⟨gb323, 1, none⟩) (Kd.R_far (p := ⟨gb323, 0, none⟩) (Kd.R_types (Kd.R_types HO315.out BK323.out (by decide)) BK307.out (by decide)) (fun _ hk => hk.1.2) (.int .i64 t310)) (fun _ hk => hk.1.2) (.int .i64 t311)) (fun _ hk => hk.1.2) (.int .i64 t312)) (fun _ hk => hk.1.2) (.slice Ao18 t313.length co18)) (fun _ hk => hk.1.2) (.slice Ao19 t316.length co19)) (fun _ hk => hk.1.2) (.slice Ao20 t319.length co20)) (fun _ hk => hk.2) (.int .i64 t310)) (fun _ hk => hk.2) (.int .i64 t311)) (fun _ hk => hk.2) (.int .i64 t312)) (fun _ hk => hk.2) (.slice Ao18 t313.length co18)) (fun _ hk => hk.2) (.slice Ao19 t316.length co19)) (fun _ hk => hk.2) (.slice Ao20 t319.length co20)) (fun _ hk => trivial), by (with_reducible repeat (first | apply Kd.R_alloc | apply Kd.R_drewN | apply Kd.R_drew)); exact Kd.R_mono (Kd.R_far (p := ⟨gb307, 5, none⟩) (Kd.R_far (p := ⟨gb307, 4, none⟩) (Kd.R_far (p := ⟨gb307, 3, none⟩) (Kd.R_far (p := ⟨gb307, 2, none⟩) (Kd.R_far (p := ⟨gb307, 1, none⟩) (Kd.R_far (p := ⟨gb307, 0, none⟩) (Kd.R_far (p := ⟨gb323, 5, none⟩) (Kd.R_far (p := ⟨gb323, 4, none⟩) (Kd.R_far (p := ⟨gb323, 3, none⟩) (Kd.R_far (p := ⟨gb323, 2, none⟩) (Kd.R_far (p := ⟨gb323, 1, none⟩) (Kd.R_far (p := ⟨gb323, 0, none⟩) (Kd.R_types (Kd.R_types HO318.out BK323.out (by decide)) BK307.out (by decide)) (fun _ hk => hk.1.2) (.int .i64 t310)) (fun _ hk => hk.1.2) (.int .i64 t311)) (fun _ hk => hk.1.2) (.int .i64 t312)) (fun _ hk => hk.1.2) (.slice Ao18 t313.length co18)) (fun _ hk => hk.1.2) (.slice Ao19 t316.length co19)) (fun _ hk => hk.1.2) (.slice Ao20 t319.length co20)) (fun _ hk => hk.2) (.int .i64 t310)) (fun _ hk => hk.2) (.int .i64 t311)) (fun _ hk => hk.2) (.int .i64 t312)) (fun _ hk => hk.2) (.slice Ao18 t313.length co18)) (fun _ hk => hk.2) (.slice Ao19 t316.length co19)) (fun _ hk => hk.2) (.slice Ao20 t319.length co20)) (fun _ hk => trivial), by (with_reducible repeat (first | apply Kd.R_alloc | apply Kd.R_drewN | apply Kd.R_drew)); exact Kd.R_mono (Kd.R_far (p := ⟨gb307, 5, none⟩) (Kd.R_far (p := ⟨gb307, 4, none⟩) (Kd.R_far (p := ⟨gb307, 3, none⟩) (Kd.R_far (p := ⟨gb307, 2, none⟩) (Kd.R_far (p := ⟨gb307, 1, none⟩) (Kd.R_far (p := ⟨gb307, 0, none⟩) (Kd.R_far (p := ⟨gb323, 5, none⟩) (Kd.R_far (p := ⟨gb323, 4, none⟩) (Kd.R_far (p := ⟨gb323, 3, none⟩) (Kd.R_far (p := ⟨gb323, 2, none⟩) (Kd.R_far (p := ⟨gb323, 1, none⟩) (Kd.R_far (p := ⟨gb323, 0, none⟩) (Kd.R_types (Kd.R_types HO321.out BK323.out (by decide)) BK307.out (by decide)) (fun _ hk => hk.1.2) (.int .i64 t310)) (fun _ hk => hk.1.2) (.int .i64 t311)) (fun _ hk => hk.1.2) (.int .i64 t312)) (fun _ hk => hk.1.2) (.slice Ao18 t313.length co18)) (fun _ hk => hk.1.2) (.slice Ao19 t316.length co19)) (fun _ hk => hk.1.2) (.slice Ao20 t319.length co20)) (fun _ hk => hk.2) (.int .i64 t310)) (fun _ hk => hk.2) (.int .i64 t311)) (fun _ hk => hk.2) (.int .i64 t312)) (fun _ hk => hk.2) (.slice Ao18 t313.length co18)) (fun _ hk => hk.2) (.slice Ao19 t316.length co19)) (fun _ hk => hk.2) (.slice Ao20 t319.length co20)) (fun _ hk => trivial), oB⟩
  ·simp only [Option.some.injEq, Prod.mk.injEq] at H
   obtain ⟨rfl, rfl, rfl, rfl, rfl, rfl, rfl⟩ := H
   go_enter Tryz.func28, Tryz.ntmps28
   go_wp2_with (first | ((with_reducible refine gate_dst (N := 2) rfl ?_); refine bx_ 2 #[.slice A0_0 l0_0.length c0_0, .int .i64 a0_1] 26 ?_; intro gb306 hg w22 hbox hb; have BK306 := Aside0.mk (hbox); have GW306 := gs_ hg; replace HB := Aside0.mk (below_step oB hb); clear hb hbox hg) | ((with_reducible refine gate_dst (N := 4) rfl ?_); refine bx_ 4 #[.int .i64 0, .int .i64 0, .int .i64 0, .slice none 0 0, .slice none 0 0, .slice none 0 0] 51 ?_; intro gb307 hg w23 hbox hb; have BK307 := Aside0.mk (hbox); have GW307 := gs_ hg; have NB306_307 := nl_ hg BK306; have NB307_306 := nr_ hg BK306; replace BK306 := kb_ BK306 hb; replace HB := Aside0.mk (below_step oB hb); clear hb hbox hg; have hnb24 := NB306_307.out; have hnc24 := NB307_306.out; obtain ⟨⟨_, _⟩, _, _⟩ := z2 BK306) | ((with_reducible refine gate_callee (f := 31) rfl ?_); refine gl_ 13 Tryz.func31 (impl_Walk.calls k _ _ l0_0 a0_1 a1 t308 t309 _ (kC HR0_0) HC0_0.out A3.out) ?_; rintro e w26 ⟨rfl, hb⟩; refine ⟨_, rfl, ?_⟩; replace BK306 := kb_ BK306 hb; replace BK307 := kb_ BK307 hb; replace HB := Aside0.mk (below_step oB hb); obtain ⟨⟨_, _⟩, _, _⟩ := z2 BK306) | ((with_reducible refine gate_callee (f := 42) rfl ?_); refine gl_ 23 Tryz.func42 (impl_InodeAt.calls k _ _ l0_0 a0_1 t308 t310 t311 t312 t313 t316 t319 false _ (kC HR0_0) HC0_0.out A5.out) ?_; rintro e w28 ⟨v314, v317, v320, rfl, ho0, ho1, ho2, hb⟩; refine ⟨_, rfl, ?_⟩; have HO315 := Aside0.mk (Kd.R_lower ho0 (below_size oB)); have HO318 := Aside0.mk (Kd.R_lower ho1 (below_size oB)); have HO321 := Aside0.mk (Kd.R_lower ho2 (below_size oB)); replace BK306 := kb_ BK306 hb; replace BK307 := kb_ BK307 hb; replace HB := Aside0.mk (below_step oB hb); (try clear ho1); (try clear ho2)) | ((with_reducible refine gate_dst (N := 8) rfl ?_); refine bx_ 8 #[.int .i64 0, .int .i64 0, .int .i64 0, .slice none 0 0, .slice none 0 0, .slice none 0 0] 51 ?_; intro gb323 hg w29 hbox hb; have BK323 := Aside0.mk (hbox); have GW323 := gs_ hg; have NB306_323 := nl_ hg BK306; have NB323_306 := nr_ hg BK306; have NB307_323 := nl_ hg BK307; have NB323_307 := nr_ hg BK307; replace HO315 := kr_ HO315 hb; replace HO318 := kr_ HO318 hb; replace HO321 := kr_ HO321 hb; replace BK306 := kb_ BK306 hb; replace BK307 := kb_ BK307 hb; replace HB := Aside0.mk (below_step oB hb); clear hb hbox hg; have hnb30 := NB323_306.out; have hnc30 := NB306_323.out; have hnb31 := NB323_307.out; have hnc31 := NB307_323.out; obtain ⟨⟨_, _, _, _, _, _⟩, _, _, _, _, _, _⟩ := z6 BK323; obtain ⟨Ao33, co33, eo33⟩ := Kd.R_slice HO315.out; subst eo33; obtain ⟨Ao34, co34, eo34⟩ := Kd.R_slice HO318.out; subst eo34; obtain ⟨Ao35, co35, eo35⟩ := Kd.R_slice HO321.out; subst eo35; obtain ⟨⟨_, _, _, _, _, _⟩, _, _, _, _, _, _⟩ := z6 BK307))
   refine bodyPost_ret (results_ct rfl _ _ gb307 51 #[.int .i64 0, .int .i64 0, .int .i64 0, .slice none 0 0, .slice none 0 0, .slice none 0 0] (0, 0) _ rfl (oP BK307) Tryz.underlying51 rfl (by kernel_rfl)) rfl ?_
   exact ⟨_, _, _, oE, by first | exact Kd.R_nil _ _ _ _ _ | exact Kd.N_nil _ _ _ _ _ | exact Kd.V_nil _ _ _ _ _ | exact Kd.Q_nil _ _ _ _ _ | exact Kd.S_nil _ _ _ _ _, by first | exact Kd.R_nil _ _ _ _ _ | exact Kd.N_nil _ _ _ _ _ | exact Kd.V_nil _ _ _ _ _ | exact Kd.Q_nil _ _ _ _ _ | exact Kd.S_nil _ _ _ _ _, by first | exact Kd.R_nil _ _ _ _ _ | exact Kd.N_nil _ _ _ _ _ | exact Kd.V_nil _ _ _ _ _ | exact Kd.Q_nil _ _ _ _ _ | exact Kd.S_nil _ _ _ _ _, oB⟩
 ·rw [if_neg c4] at H
  have c4b0 : (t309 == 0) = false := beq_eq_false_iff_ne.mpr c4
  have c4b1 : (t309 != 0) = true := bne_iff_ne.mpr c4
  simp only [Option.some.injEq, Prod.mk.injEq] at H
  obtain ⟨rfl, rfl, rfl, rfl, rfl, rfl, rfl⟩ := H
  go_enter Tryz.func28, Tryz.ntmps28
  go_wp2_with (first | ((with_reducible refine gate_dst (N := 2) rfl ?_); refine bx_ 2 #[.slice A0_0 l0_0.length c0_0, .int .i64 a0_1] 26 ?_; intro gb306 hg w37 hbox hb; have BK306 := Aside0.mk (hbox); have GW306 := gs_ hg; replace HB := Aside0.mk (below_step oB hb); clear hb hbox hg) | ((with_reducible refine gate_dst (N := 4) rfl ?_); refine bx_ 4 #[.int .i64 0, .int .i64 0, .int .i64 0, .slice none 0 0, .slice none 0 0, .slice none 0 0] 51 ?_; intro gb307 hg w38 hbox hb; have BK307 := Aside0.mk (hbox); have GW307 := gs_ hg; have NB306_307 := nl_ hg BK306; have NB307_306 := nr_ hg BK306; replace BK306 := kb_ BK306 hb; replace HB := Aside0.mk (below_step oB hb); clear hb hbox hg; have hnb39 := NB306_307.out; have hnc39 := NB307_306.out; obtain ⟨⟨_, _⟩, _, _⟩ := z2 BK306) | ((with_reducible refine gate_callee (f := 31) rfl ?_); refine gl_ 13 Tryz.func31 (impl_Walk.calls k _ _ l0_0 a0_1 a1 t308 t309 _ (kC HR0_0) HC0_0.out A3.out) ?_; rintro e w41 ⟨rfl, hb⟩; refine ⟨_, rfl, ?_⟩; replace BK306 := kb_ BK306 hb; replace BK307 := kb_ BK307 hb; replace HB := Aside0.mk (below_step oB hb); obtain ⟨⟨_, _, _, _, _, _⟩, _, _, _, _, _, _⟩ := z6 BK307))
  refine bodyPost_ret (results_ct rfl _ _ gb307 51 #[.int .i64 0, .int .i64 0, .int .i64 0, .slice none 0 0, .slice none 0 0, .slice none 0 0] (0, 0) _ rfl (oP BK307) Tryz.underlying51 rfl (by kernel_rfl)) rfl ?_
  exact ⟨_, _, _, oE, by first | exact Kd.R_nil _ _ _ _ _ | exact Kd.N_nil _ _ _ _ _ | exact Kd.V_nil _ _ _ _ _ | exact Kd.Q_nil _ _ _ _ _ | exact Kd.S_nil _ _ _ _ _, by first | exact Kd.R_nil _ _ _ _ _ | exact Kd.N_nil _ _ _ _ _ | exact Kd.V_nil _ _ _ _ _ | exact Kd.Q_nil _ _ _ _ _ | exact Kd.S_nil _ _ _ _ _, by first | exact Kd.R_nil _ _ _ _ _ | exact Kd.N_nil _ _ _ _ _ | exact Kd.V_nil _ _ _ _ _ | exact Kd.Q_nil _ _ _ _ _ | exact Kd.S_nil _ _ _ _ _, oB⟩

/-! ### impl_ready: function 46 -/
def impl_ready.l0 : Nat → List ByteArray → Int → Int → List (S51) → Int → Option (Bool)
 | 0, _, _, _, _, _ => none
 | k + 1, x9, x10, x11, x272000, x272001 => if x11 < x10 then (if 0 ≤ x11 then (if x11 < (x9.length : Int) then ((impl_SplitPath.f k (rdOf ByteArray.empty x9 x11)).bind fun bt273 => (if bt273.2 = true then (impl_ready.l0 k x9 x10 (wrap64 (x11 + 1)) x272000 x272001) else (some false))) else (none)) else (none)) else ((impl_TreeOk.f k x272000 x272001).bind fun t277 => (some t277))
def impl_ready.f (k : Nat) (l0_0 : List (S51)) (a0_1 : Int) (l1 : List ByteArray) : Option (Bool) := impl_ready.l0 k l1 (l1.length : Int) 0 l0_0 a0_1
set_option maxHeartbeats 8000000 in
set_option maxRecDepth 100000 in
theorem impl_ready.calls (k : Nat) (A0_0 : Option Addr) (c0_0 : Nat) (l0_0 : List (S51)) (a0_1 : Int) (A1 : Option Addr) (c1 : Nat) (l1 : List ByteArray) (r : Bool) (w : World) (hr0_0 : Kd.C k51 w A0_0 l0_0.length l0_0) (hc0_0 : l0_0.length ≤ c0_0) (hr1 : Kd.C Kd.string w A1 l1.length l1) (hc1 : l1.length ≤ c1) (h : impl_ready.f k l0_0 a0_1 l1 = some r) (hG : GOk w := by exact gk_ oB (by first | (with_reducible assumption) | assumption)) :
  Calls Tryz.prog 46 #[.agg #[.slice A0_0 l0_0.length c0_0, .int .i64 a0_1], .slice A1 l1.length c1] w fun e w' => e = .returned (.bool r) ∧ Below w.heap.size w w' := by
 have HG := Aside0.mk hG
 clear hG
 have hu26 := Tryz.underlying26
 have HR0_0 := Aside0.mk hr0_0
 have HC0_0 := Aside0.mk hc0_0
 clear hr0_0 hc0_0
 have HR1 := Aside0.mk hr1
 have HC1 := Aside0.mk hc1
 clear hr1 hc1
 have HB := Aside0.mk (Below.refl w.heap.size w)
 unfold impl_ready.f at h
 have H := h
 clear h
 have H' := Aside0.mk H
 clear H
 go_enter Tryz.func46, Tryz.ntmps46
 go_wp2_with (first | ((with_reducible refine gate_dst (N := 2) rfl ?_); refine bx_ 2 #[.slice A0_0 l0_0.length c0_0, .int .i64 a0_1] 26 ?_; intro gb271 hg w3 hbox hb; have BK271 := Aside0.mk (hbox); have GW271 := gs_ hg; replace HB := Aside0.mk (below_step oB hb); clear hb hbox hg))
 go_loopg [11] k (fun kq v11 w' => ∃ (x11_1 : Int), v11 = .int .i64 x11_1 ∧ Aside0 (impl_ready.l0 kq l1 (l1.length : Int) x11_1 l0_0 a0_1 = some r) ∧ Aside0 (kq ≤ k) ∧ Aside0 (w'.heap[gb271]? = some (.cells #[(.slice A0_0 l0_0.length c0_0), .int .i64 a0_1] 26 (0, 0))) ∧ Aside0 (Below w.heap.size w w'))
 case atStart => exact ⟨(0), oS, H', ⟨Nat.le_refl _⟩, ⟨oF BK271⟩, ⟨oB⟩⟩
 case round =>
  clear H'
  try clear c1
  obtain ⟨x11_1, rfl, HA, HK1, BK271, HB⟩ := hrel
  cases gk with
  | zero => exact absurd HA.out (by simp [impl_ready.l0])
  | succ k1 =>
   have H := HA.out
   clear HA
   simp only [impl_ready.l0] at H
   replace H := itD H
   rcases H with ⟨c4b0, H⟩ | ⟨c4b0, H⟩
   ·replace H := itD H
    rcases H with ⟨c5b0, H⟩ | ⟨c5b0, H⟩
    ·replace H := itD H
     rcases H with ⟨c6b0, H⟩ | ⟨c6b0, H⟩
     ·replace H := bA H
      obtain ⟨⟨t273, t274⟩, A7, H⟩ := H
      try dsimp only at H
      replace H := itB H
      rcases H with ⟨rfl, H⟩ | ⟨rfl, H⟩
      ·have H' := Aside0.mk H
       clear H
       have p272 : (0 ≤ (x11_1 : Int)) = True := oT
       have q272 : (x11_1 < (l1.length : Int)) = True := oT
       obtain ⟨ad272, e272, hx272_0⟩ := Kd.at_string HR1.out x11_1 oa oa
       cases e272
       replace hx272_0 := cB HB hx272_0
       go_wp2_with (first | ((with_reducible refine gate_callee (f := 16) rfl ?_); refine gl_ 17 Tryz.func16 (impl_SplitPath.calls k1 (rdOf ByteArray.empty l1 x11_1) t273 true _ A7.out) ?_; rintro e w9 ⟨v275, rfl, ho0, hb⟩; refine ⟨_, rfl, ?_⟩; have HO276 := Aside0.mk (Kd.Q_lower ho0 (below_size oB)); replace BK271 := kb_ BK271 hb; replace HB := Aside0.mk (below_step oB hb)))
       go_roundg k1
       case measure => have := HK1.out; omega
       case rel => exact ⟨(wrap64 (x11_1 + 1)), oS, H', ⟨by have := HK1.out; omega⟩, ⟨oF BK271⟩, ⟨oB⟩⟩
      ·obtain rfl := Option.some.inj H
       have p272 : (0 ≤ (x11_1 : Int)) = True := oT
       have q272 : (x11_1 < (l1.length : Int)) = True := oT
       obtain ⟨ad272, e272, hx272_0⟩ := Kd.at_string HR1.out x11_1 oa oa
       cases e272
       replace hx272_0 := cB HB hx272_0
       go_wp2_with (first | ((with_reducible refine gate_callee (f := 16) rfl ?_); refine gl_ 17 Tryz.func16 (impl_SplitPath.calls k1 (rdOf ByteArray.empty l1 x11_1) t273 false _ A7.out) ?_; rintro e w10 ⟨v275, rfl, ho0, hb⟩; refine ⟨_, rfl, ?_⟩; have HO276 := Aside0.mk (Kd.Q_lower ho0 (below_size oB)); replace BK271 := kb_ BK271 hb; replace HB := Aside0.mk (below_step oB hb)))
       go_ret
       exact ⟨oE, oB⟩
     ·cases H
    ·cases H
   ·replace H := bA H
    obtain ⟨t277, A11, H⟩ := H
    try dsimp only at H
    obtain rfl := Option.some.inj H
    obtain ⟨⟨_, _⟩, _, _⟩ := z2 BK271
    go_wp2_with (first | ((with_reducible refine gate_callee (f := 17) rfl ?_); refine gl_ 24 Tryz.func17 (impl_TreeOk.calls k1 _ _ l0_0 a0_1 t277 _ (kC HR0_0) HC0_0.out A11.out) ?_; rintro e w13 ⟨rfl, hb⟩; refine ⟨_, rfl, ?_⟩; replace BK271 := kb_ BK271 hb; replace HB := Aside0.mk (below_step oB hb)))
    go_ret
    exact ⟨oE, oB⟩

/-! ### impl_spotOf: function 57 -/
def impl_spotOf.f (k : Nat) (l0_0 : List (S51)) (a0_1 : Int) (a1 : ByteArray) : Option (Int × Int × Int × List Int × (List (S65)) × (List (S71)) × ByteArray × Int) := (impl_ParentOf.f k a1).bind fun bt337 => ((impl_Stat.f k l0_0 a0_1 bt337.1).bind fun bt340 => (if bt340.2.2.2.2.2.2 = 0 then (if bt340.2.1 = 2 then (some (bt340.1, bt340.2.1, bt340.2.2.1, bt340.2.2.2.1, bt340.2.2.2.2.1, bt340.2.2.2.2.2.1, bt337.2.1, 0)) else (some (0, 0, 0, ([] : List Int), ([] : List (S65)), ([] : List (S71)), (⟨#[]⟩ : ByteArray), 3))) else (some (0, 0, 0, ([] : List Int), ([] : List (S65)), ([] : List (S71)), (⟨#[]⟩ : ByteArray), bt340.2.2.2.2.2.2))))
set_option maxHeartbeats 8000000 in
set_option maxRecDepth 100000 in
theorem impl_spotOf.calls (k : Nat) (A0_0 : Option Addr) (c0_0 : Nat) (l0_0 : List (S51)) (a0_1 : Int) (a1 : ByteArray) (r1 : Int) (r2 : Int) (r3 : Int) (r4 : List Int) (r5 : List (S65)) (r6 : List (S71)) (r7 : ByteArray) (r8 : Int) (w : World) (hr0_0 : Kd.C k51 w A0_0 l0_0.length l0_0) (hc0_0 : l0_0.length ≤ c0_0) (h : impl_spotOf.f k l0_0 a0_1 a1 = some (r1, r2, r3, r4, r5, r6, r7, r8)) (hG : GOk w := by exact gk_ oB (by first | (with_reducible assumption) | assumption)) :
  Calls Tryz.prog 57 #[.agg #[.slice A0_0 l0_0.length c0_0, .int .i64 a0_1], .string a1] w fun e w' => ∃ v3_ v4_ v5_ : Value, e = .returned (.tuple #[.agg #[.int .i64 r1, .int .i64 r2, .int .i64 r3, v3_, v4_, v5_, .string r7], .int .i64 r8]) ∧ Kd.R (Kd.int .u8) 5 w' w.heap.size (fun _ => True) v3_ r4 ∧ Kd.R k65 65 w' w.heap.size (fun _ => True) v4_ r5 ∧ Kd.R k71 71 w' w.heap.size (fun _ => True) v5_ r6 ∧ Below w.heap.size w w' := by
 have HG := Aside0.mk hG
 clear hG
 have hu26 := Tryz.underlying26
 have hu84 := Tryz.underlying84
 have hu51 := Tryz.underlying51
 have HR0_0 := Aside0.mk hr0_0
 have HC0_0 := Aside0.mk hc0_0
 clear hr0_0 hc0_0
 have HB := Aside0.mk (Below.refl w.heap.size w)
 unfold impl_spotOf.f at h
 have H := h
 clear h
 replace H := bA H
 obtain ⟨⟨t337, t338, t339⟩, A3, H⟩ := H
 try dsimp only at H
 replace H := bA H
 obtain ⟨⟨t340, t341, t342, t343, t346, t349, t352⟩, A4, H⟩ := H
 try dsimp only at H
 by_cases c5 : t352 = 0
 ·rw [if_pos c5] at H
  have c5b0 : (t352 == 0) = true := beq_iff_eq.mpr c5
  have c5b1 : (t352 != 0) = false := bne_eq_false_iff_eq.mpr c5
  clear c5
  by_cases c6 : t341 = 2
  ·rw [if_pos c6] at H
   have c6b0 : (t341 == 2) = true := beq_iff_eq.mpr c6
   have c6b1 : (t341 != 2) = false := bne_eq_false_iff_eq.mpr c6
   clear c6
   simp only [Option.some.injEq, Prod.mk.injEq] at H
   obtain ⟨rfl, rfl, rfl, rfl, rfl, rfl, rfl, rfl⟩ := H
   go_enter Tryz.func57, Tryz.ntmps57
   go_wp2_with (first | ((with_reducible refine gate_dst (N := 2) rfl ?_); refine bx_ 2 #[.slice A0_0 l0_0.length c0_0, .int .i64 a0_1] 26 ?_; intro gb335 hg w7 hbox hb; have BK335 := Aside0.mk (hbox); have GW335 := gs_ hg; replace HB := Aside0.mk (below_step oB hb); clear hb hbox hg) | ((with_reducible refine gate_dst (N := 4) rfl ?_); refine bx_ 4 #[.int .i64 0, .int .i64 0, .int .i64 0, .slice none 0 0, .slice none 0 0, .slice none 0 0, .string (⟨#[]⟩ : ByteArray)] 84 ?_; intro gb336 hg w8 hbox hb; have BK336 := Aside0.mk (hbox); have GW336 := gs_ hg; have NB335_336 := nl_ hg BK335; have NB336_335 := nr_ hg BK335; replace BK335 := kb_ BK335 hb; replace HB := Aside0.mk (below_step oB hb); clear hb hbox hg) | ((with_reducible refine gate_callee (f := 78) rfl ?_); refine gl_ 13 Tryz.func78 (impl_ParentOf.calls k a1 t337 t338 t339 _ A3.out) ?_; rintro e w9 ⟨rfl, hb⟩; refine ⟨_, rfl, ?_⟩; replace BK335 := kb_ BK335 hb; replace BK336 := kb_ BK336 hb; replace HB := Aside0.mk (below_step oB hb); have hnb10 := NB335_336.out; have hnc10 := NB336_335.out; obtain ⟨⟨_, _⟩, _, _⟩ := z2 BK335) | ((with_reducible refine gate_callee (f := 28) rfl ?_); refine gl_ 20 Tryz.func28 (impl_Stat.calls k _ _ l0_0 a0_1 t337 t340 t341 t342 t343 t346 t349 t352 _ (kC HR0_0) HC0_0.out A4.out) ?_; rintro e w12 ⟨v344, v347, v350, rfl, ho0, ho1, ho2, hb⟩; refine ⟨_, rfl, ?_⟩; have HO345 := Aside0.mk (Kd.R_lower ho0 (below_size oB)); have HO348 := Aside0.mk (Kd.R_lower ho1 (below_size oB)); have HO351 := Aside0.mk (Kd.R_lower ho2 (below_size oB)); replace BK335 := kb_ BK335 hb; replace BK336 := kb_ BK336 hb; replace HB := Aside0.mk (below_step oB hb); (try clear ho1); (try clear ho2)) | ((with_reducible refine gate_dst (N := 9) rfl ?_); refine bx_ 9 #[.int .i64 0, .int .i64 0, .int .i64 0, .slice none 0 0, .slice none 0 0, .slice none 0 0] 51 ?_; intro gb353 hg w13 hbox hb; have BK353 := Aside0.mk (hbox); have GW353 := gs_ hg; have NB335_353 := nl_ hg BK335; have NB353_335 := nr_ hg BK335; have NB336_353 := nl_ hg BK336; have NB353_336 := nr_ hg BK336; replace HO345 := kr_ HO345 hb; replace HO348 := kr_ HO348 hb; replace HO351 := kr_ HO351 hb; replace BK335 := kb_ BK335 hb; replace BK336 := kb_ BK336 hb; replace HB := Aside0.mk (below_step oB hb); clear hb hbox hg; have hnb14 := NB353_335.out; have hnc14 := NB335_353.out; have hnb15 := NB353_336.out; have hnc15 := NB336_353.out; obtain ⟨⟨_, _, _, _, _, _⟩, _, _, _, _, _, _⟩ := z6 BK353; obtain ⟨Ao17, co17, eo17⟩ := Kd.R_slice HO345.out; subst eo17; obtain ⟨Ao18, co18, eo18⟩ := Kd.R_slice HO348.out; subst eo18; obtain ⟨Ao19, co19, eo19⟩ := Kd.R_slice HO351.out; subst eo19; obtain ⟨⟨_, _, _, _, _, _, _⟩, _, _, _, _, _, _, _⟩ := z7 BK336))
   refine bodyPost_ret (results_ct rfl _ _ gb336 84 #[.int .i64 t340, .int .i64 t341, .int .i64 t342, .slice Ao17 t343.length co17, .slice Ao18 t346.length co18, .slice Ao19 t349.length co19, .string t338] (0, 0) _ rfl (oP BK336) Tryz.underlying84 rfl (by kernel_rfl)) rfl ?_
   exact ⟨_, _, _, oE, by (with_reducible repeat (first | apply Kd.R_alloc | apply Kd.R_drewN | apply Kd.R_drew)); exact Kd.R_mono (Kd.R_far (p := ⟨gb336, 6, none⟩) (Kd.R_far (p := ⟨gb336, 5, none⟩) (Kd.R_far (p := ⟨gb336, 4, none⟩) (Kd.R_far (p := ⟨gb336, 3, none⟩) (Kd.R_far (p := ⟨gb336, 2, none⟩) (Kd.R_far (p := ⟨gb336, 1, none⟩) (Kd.R_far (p := ⟨gb336, 0, none⟩) (Kd.R_far (p := ⟨gb353, 5, none⟩) (Kd.R_far (p := ⟨gb353, 4, none⟩) (Kd.R_far (p := ⟨gb353, 3, none⟩) (Kd.R_far (p := ⟨gb353, 2, none⟩) (Kd.R_far (p := ⟨gb353, 1, none⟩) (Kd.R_far (p := ⟨gb353, 0, none⟩) (Kd.R_types (Kd.R_types HO345.out BK353.out (by decide)) BK336.out (by decide)) (fun _ hk => hk.1.2) (.int .i64 t340)) (fun _ hk => hk.1.2) (.int .i64 t341)) (fun _ hk => hk.1.2) (.int .i64 t342)) (fun _ hk => hk.1.2) (.slice Ao17 t343.length co17)) (fun _ hk => hk.1.2) (.slice Ao18 t346.length co18)) (fun _ hk => hk.1.2) (.slice Ao19 t349.length co19)) (fun _ hk => hk.2) (.int .i64 t340)) (fun _ hk => hk.2) (.int .i64 t341)) (fun _ hk => hk.2) (.int .i64 t342)) (fun _ hk => hk.2) (.slice Ao17 t343.length co17)) (fun _ hk => hk.2) (.slice Ao18 t346.length co18)) (fun _ hk => hk.2) (.slice Ao19 t349.length co19)) (fun _ hk => hk.2) (.string t338)) (fun _ hk => trivial), by (with_reducible repeat (first | apply Kd.R_alloc | apply Kd.R_drewN | apply Kd.R_drew)); exact Kd.R_mono (Kd.R_far (p := ⟨gb336, 6, none⟩) (Kd.R_far (p := ⟨gb336, 5, none⟩) (Kd.R_far (p := ⟨gb336, 4, none⟩) (Kd.R_far (p := ⟨gb336, 3, none⟩) (Kd.R_far (p := ⟨gb336, 2, none⟩) (Kd.R_far (p := ⟨gb336, 1, none⟩) (Kd.R_far (p := ⟨gb336, 0, none⟩) (Kd.R_far (p := ⟨gb353, 5, none⟩) (Kd.R_far (p := ⟨gb353, 4, none⟩) (Kd.R_far (p := ⟨gb353, 3, none⟩) (Kd.R_far (p := ⟨gb353, 2, none⟩) (Kd.R_far (p := ⟨gb353, 1, none⟩) (Kd.R_far (p := ⟨gb353, 0, none⟩) (Kd.R_types (Kd.R_types HO348.out BK353.out (by decide)) BK336.out (by decide)) (fun _ hk => hk.1.2) (.int .i64 t340)) (fun _ hk => hk.1.2) (.int .i64 t341)) (fun _ hk => hk.1.2) (.int .i64 t342)) (fun _ hk => hk.1.2) (.slice Ao17 t343.length co17)) (fun _ hk => hk.1.2) (.slice Ao18 t346.length co18)) (fun _ hk => hk.1.2) (.slice Ao19 t349.length co19)) (fun _ hk => hk.2) (.int .i64 t340)) (fun _ hk => hk.2) (.int .i64 t341)) (fun _ hk => hk.2) (.int .i64 t342)) (fun _ hk => hk.2) (.slice Ao17 t343.length co17)) (fun _ hk => hk.2) (.slice Ao18 t346.length co18)) (fun _ hk => hk.2) (.slice Ao19 t349.length co19)) (fun _ hk => hk.2) (.string t338)) (fun _ hk => trivial), by (with_reducible repeat (first | apply Kd.R_alloc | apply Kd.R_drewN | apply Kd.R_drew)); exact Kd.R_mono (Kd.R_far (p := ⟨gb336, 6, none⟩) (Kd.R_far (p := ⟨gb336, 5, none⟩) (Kd.R_far (p := ⟨gb336, 4, none⟩) (Kd.R_far (p := ⟨gb336, 3, none⟩) (Kd.R_far (p := ⟨gb336, 2, none⟩) (Kd.R_far (p := ⟨gb336, 1, none⟩) (Kd.R_far (p := ⟨gb336, 0, none⟩) (Kd.R_far (p := ⟨gb353, 5, none⟩) (Kd.R_far (p := ⟨gb353, 4, none⟩) (Kd.R_far (p := ⟨gb353, 3, none⟩) (Kd.R_far (p := ⟨gb353, 2, none⟩) (Kd.R_far (p := ⟨gb353, 1, none⟩) (Kd.R_far (p := ⟨gb353, 0, none⟩) (Kd.R_types (Kd.R_types HO351.out BK353.out (by decide)) BK336.out (by decide)) (fun _ hk => hk.1.2) (.int .i64 t340)) (fun _ hk => hk.1.2) (.int .i64 t341)) (fun _ hk => hk.1.2) (.int .i64 t342)) (fun _ hk => hk.1.2) (.slice Ao17 t343.length co17)) (fun _ hk => hk.1.2) (.slice Ao18 t346.length co18)) (fun _ hk => hk.1.2) (.slice Ao19 t349.length co19)) (fun _ hk => hk.2) (.int .i64 t340)) (fun _ hk => hk.2) (.int .i64 t341)) (fun _ hk => hk.2) (.int .i64 t342)) (fun _ hk => hk.2) (.slice Ao17 t343.length co17)) (fun _ hk => hk.2) (.slice Ao18 t346.length co18)) (fun _ hk => hk.2) (.slice Ao19 t349.length co19)) (fun _ hk => hk.2) (.string t338)) (fun _ hk => trivial), oB⟩
  ·rw [if_neg c6] at H
   have c6b0 : (t341 == 2) = false := beq_eq_false_iff_ne.mpr c6
   have c6b1 : (t341 != 2) = true := bne_iff_ne.mpr c6
   simp only [Option.some.injEq, Prod.mk.injEq] at H
   obtain ⟨rfl, rfl, rfl, rfl, rfl, rfl, rfl, rfl⟩ := H
   go_enter Tryz.func57, Tryz.ntmps57
   go_wp2_with (first | ((with_reducible refine gate_dst (N := 2) rfl ?_); refine bx_ 2 #[.slice A0_0 l0_0.length c0_0, .int .i64 a0_1] 26 ?_; intro gb335 hg w21 hbox hb; have BK335 := Aside0.mk (hbox); have GW335 := gs_ hg; replace HB := Aside0.mk (below_step oB hb); clear hb hbox hg) | ((with_reducible refine gate_dst (N := 4) rfl ?_); refine bx_ 4 #[.int .i64 0, .int .i64 0, .int .i64 0, .slice none 0 0, .slice none 0 0, .slice none 0 0, .string (⟨#[]⟩ : ByteArray)] 84 ?_; intro gb336 hg w22 hbox hb; have BK336 := Aside0.mk (hbox); have GW336 := gs_ hg; have NB335_336 := nl_ hg BK335; have NB336_335 := nr_ hg BK335; replace BK335 := kb_ BK335 hb; replace HB := Aside0.mk (below_step oB hb); clear hb hbox hg) | ((with_reducible refine gate_callee (f := 78) rfl ?_); refine gl_ 13 Tryz.func78 (impl_ParentOf.calls k a1 t337 t338 t339 _ A3.out) ?_; rintro e w23 ⟨rfl, hb⟩; refine ⟨_, rfl, ?_⟩; replace BK335 := kb_ BK335 hb; replace BK336 := kb_ BK336 hb; replace HB := Aside0.mk (below_step oB hb); have hnb24 := NB335_336.out; have hnc24 := NB336_335.out; obtain ⟨⟨_, _⟩, _, _⟩ := z2 BK335) | ((with_reducible refine gate_callee (f := 28) rfl ?_); refine gl_ 20 Tryz.func28 (impl_Stat.calls k _ _ l0_0 a0_1 t337 t340 t341 t342 t343 t346 t349 t352 _ (kC HR0_0) HC0_0.out A4.out) ?_; rintro e w26 ⟨v344, v347, v350, rfl, ho0, ho1, ho2, hb⟩; refine ⟨_, rfl, ?_⟩; have HO345 := Aside0.mk (Kd.R_lower ho0 (below_size oB)); have HO348 := Aside0.mk (Kd.R_lower ho1 (below_size oB)); have HO351 := Aside0.mk (Kd.R_lower ho2 (below_size oB)); replace BK335 := kb_ BK335 hb; replace BK336 := kb_ BK336 hb; replace HB := Aside0.mk (below_step oB hb); (try clear ho1); (try clear ho2)) | ((with_reducible refine gate_dst (N := 9) rfl ?_); refine bx_ 9 #[.int .i64 0, .int .i64 0, .int .i64 0, .slice none 0 0, .slice none 0 0, .slice none 0 0] 51 ?_; intro gb353 hg w27 hbox hb; have BK353 := Aside0.mk (hbox); have GW353 := gs_ hg; have NB335_353 := nl_ hg BK335; have NB353_335 := nr_ hg BK335; have NB336_353 := nl_ hg BK336; have NB353_336 := nr_ hg BK336; replace HO345 := kr_ HO345 hb; replace HO348 := kr_ HO348 hb; replace HO351 := kr_ HO351 hb; replace BK335 := kb_ BK335 hb; replace BK336 := kb_ BK336 hb; replace HB := Aside0.mk (below_step oB hb); clear hb hbox hg; have hnb28 := NB353_335.out; have hnc28 := NB335_353.out; have hnb29 := NB353_336.out; have hnc29 := NB336_353.out; obtain ⟨⟨_, _, _, _, _, _⟩, _, _, _, _, _, _⟩ := z6 BK353; obtain ⟨Ao31, co31, eo31⟩ := Kd.R_slice HO345.out; subst eo31; obtain ⟨Ao32, co32, eo32⟩ := Kd.R_slice HO348.out; subst eo32; obtain ⟨Ao33, co33, eo33⟩ := Kd.R_slice HO351.out; subst eo33; obtain ⟨⟨_, _, _, _, _, _, _⟩, _, _, _, _, _, _, _⟩ := z7 BK336))
   refine bodyPost_ret (results_ct rfl _ _ gb336 84 #[.int .i64 0, .int .i64 0, .int .i64 0, .slice none 0 0, .slice none 0 0, .slice none 0 0, .string (⟨#[]⟩ : ByteArray)] (0, 0) _ rfl (oP BK336) Tryz.underlying84 rfl (by kernel_rfl)) rfl ?_
   exact ⟨_, _, _, oE, by first | exact Kd.R_nil _ _ _ _ _ | exact Kd.N_nil _ _ _ _ _ | exact Kd.V_nil _ _ _ _ _ | exact Kd.Q_nil _ _ _ _ _ | exact Kd.S_nil _ _ _ _ _, by first | exact Kd.R_nil _ _ _ _ _ | exact Kd.N_nil _ _ _ _ _ | exact Kd.V_nil _ _ _ _ _ | exact Kd.Q_nil _ _ _ _ _ | exact Kd.S_nil _ _ _ _ _, by first | exact Kd.R_nil _ _ _ _ _ | exact Kd.N_nil _ _ _ _ _ | exact Kd.V_nil _ _ _ _ _ | exact Kd.Q_nil _ _ _ _ _ | exact Kd.S_nil _ _ _ _ _, oB⟩
 ·rw [if_neg c5] at H
  have c5b0 : (t352 == 0) = false := beq_eq_false_iff_ne.mpr c5
  have c5b1 : (t352 != 0) = true := bne_iff_ne.mpr c5
  simp only [Option.some.injEq, Prod.mk.injEq] at H
  obtain ⟨rfl, rfl, rfl, rfl, rfl, rfl, rfl, rfl⟩ := H
  go_enter Tryz.func57, Tryz.ntmps57
  go_wp2_with (first | ((with_reducible refine gate_dst (N := 2) rfl ?_); refine bx_ 2 #[.slice A0_0 l0_0.length c0_0, .int .i64 a0_1] 26 ?_; intro gb335 hg w35 hbox hb; have BK335 := Aside0.mk (hbox); have GW335 := gs_ hg; replace HB := Aside0.mk (below_step oB hb); clear hb hbox hg) | ((with_reducible refine gate_dst (N := 4) rfl ?_); refine bx_ 4 #[.int .i64 0, .int .i64 0, .int .i64 0, .slice none 0 0, .slice none 0 0, .slice none 0 0, .string (⟨#[]⟩ : ByteArray)] 84 ?_; intro gb336 hg w36 hbox hb; have BK336 := Aside0.mk (hbox); have GW336 := gs_ hg; have NB335_336 := nl_ hg BK335; have NB336_335 := nr_ hg BK335; replace BK335 := kb_ BK335 hb; replace HB := Aside0.mk (below_step oB hb); clear hb hbox hg) | ((with_reducible refine gate_callee (f := 78) rfl ?_); refine gl_ 13 Tryz.func78 (impl_ParentOf.calls k a1 t337 t338 t339 _ A3.out) ?_; rintro e w37 ⟨rfl, hb⟩; refine ⟨_, rfl, ?_⟩; replace BK335 := kb_ BK335 hb; replace BK336 := kb_ BK336 hb; replace HB := Aside0.mk (below_step oB hb); have hnb38 := NB335_336.out; have hnc38 := NB336_335.out; obtain ⟨⟨_, _⟩, _, _⟩ := z2 BK335) | ((with_reducible refine gate_callee (f := 28) rfl ?_); refine gl_ 20 Tryz.func28 (impl_Stat.calls k _ _ l0_0 a0_1 t337 t340 t341 t342 t343 t346 t349 t352 _ (kC HR0_0) HC0_0.out A4.out) ?_; rintro e w40 ⟨v344, v347, v350, rfl, ho0, ho1, ho2, hb⟩; refine ⟨_, rfl, ?_⟩; have HO345 := Aside0.mk (Kd.R_lower ho0 (below_size oB)); have HO348 := Aside0.mk (Kd.R_lower ho1 (below_size oB)); have HO351 := Aside0.mk (Kd.R_lower ho2 (below_size oB)); replace BK335 := kb_ BK335 hb; replace BK336 := kb_ BK336 hb; replace HB := Aside0.mk (below_step oB hb); (try clear ho1); (try clear ho2)) | ((with_reducible refine gate_dst (N := 9) rfl ?_); refine bx_ 9 #[.int .i64 0, .int .i64 0, .int .i64 0, .slice none 0 0, .slice none 0 0, .slice none 0 0] 51 ?_; intro gb353 hg w41 hbox hb; have BK353 := Aside0.mk (hbox); have GW353 := gs_ hg; have NB335_353 := nl_ hg BK335; have NB353_335 := nr_ hg BK335; have NB336_353 := nl_ hg BK336; have NB353_336 := nr_ hg BK336; replace HO345 := kr_ HO345 hb; replace HO348 := kr_ HO348 hb; replace HO351 := kr_ HO351 hb; replace BK335 := kb_ BK335 hb; replace BK336 := kb_ BK336 hb; replace HB := Aside0.mk (below_step oB hb); clear hb hbox hg; have hnb42 := NB353_335.out; have hnc42 := NB335_353.out; have hnb43 := NB353_336.out; have hnc43 := NB336_353.out; obtain ⟨⟨_, _, _, _, _, _⟩, _, _, _, _, _, _⟩ := z6 BK353; obtain ⟨Ao45, co45, eo45⟩ := Kd.R_slice HO345.out; subst eo45; obtain ⟨Ao46, co46, eo46⟩ := Kd.R_slice HO348.out; subst eo46; obtain ⟨Ao47, co47, eo47⟩ := Kd.R_slice HO351.out; subst eo47; obtain ⟨⟨_, _, _, _, _, _, _⟩, _, _, _, _, _, _, _⟩ := z7 BK336))
  refine bodyPost_ret (results_ct rfl _ _ gb336 84 #[.int .i64 0, .int .i64 0, .int .i64 0, .slice none 0 0, .slice none 0 0, .slice none 0 0, .string (⟨#[]⟩ : ByteArray)] (0, 0) _ rfl (oP BK336) Tryz.underlying84 rfl (by kernel_rfl)) rfl ?_
  exact ⟨_, _, _, oE, by first | exact Kd.R_nil _ _ _ _ _ | exact Kd.N_nil _ _ _ _ _ | exact Kd.V_nil _ _ _ _ _ | exact Kd.Q_nil _ _ _ _ _ | exact Kd.S_nil _ _ _ _ _, by first | exact Kd.R_nil _ _ _ _ _ | exact Kd.N_nil _ _ _ _ _ | exact Kd.V_nil _ _ _ _ _ | exact Kd.Q_nil _ _ _ _ _ | exact Kd.S_nil _ _ _ _ _, by first | exact Kd.R_nil _ _ _ _ _ | exact Kd.N_nil _ _ _ _ _ | exact Kd.V_nil _ _ _ _ _ | exact Kd.Q_nil _ _ _ _ _ | exact Kd.S_nil _ _ _ _ _, oB⟩

/-! ### impl_PathsOf: function 18 -/
def impl_PathsOf.f (k : Nat) (l0_0 : List (S51)) (a0_1 : Int) : Option (List ByteArray) := (impl_TreeOk.f k l0_0 a0_1).bind fun t438 => (if t438 = true then ((impl_InodeAt.f k l0_0 a0_1 1).bind fun bt439 => ((impl_pathsBelow.f k l0_0 a0_1 bt439.1 bt439.2.1 bt439.2.2.1 bt439.2.2.2.1 bt439.2.2.2.2.1 bt439.2.2.2.2.2.1 (⟨#[]⟩ : ByteArray)).bind fun t453 => (if t453.length < 4611686018427387904 then some (sortS t453) else none))) else (some ([] : List ByteArray)))
set_option maxHeartbeats 8000000 in
set_option maxRecDepth 100000 in
theorem impl_PathsOf.calls (k : Nat) (A0_0 : Option Addr) (c0_0 : Nat) (l0_0 : List (S51)) (a0_1 : Int) (r : List ByteArray) (w : World) (hr0_0 : Kd.C k51 w A0_0 l0_0.length l0_0) (hc0_0 : l0_0.length ≤ c0_0) (h : impl_PathsOf.f k l0_0 a0_1 = some r) :
  Calls Tryz.prog 18 #[.agg #[.slice A0_0 l0_0.length c0_0, .int .i64 a0_1]] w fun e w' => ∃ v0_ : Value, e = .returned (v0_) ∧ Kd.R Kd.string 9 w' w.heap.size (fun _ => True) v0_ r ∧ Below w.heap.size w w' := by
 have hu26 := Tryz.underlying26
 have hu51 := Tryz.underlying51
 have HR0_0 := Aside0.mk hr0_0
 have HC0_0 := Aside0.mk hc0_0
 clear hr0_0 hc0_0
 have HB := Aside0.mk (Below.refl w.heap.size w)
 unfold impl_PathsOf.f at h
 have H := h
 clear h
 replace H := bA H
 obtain ⟨t438, A2, H⟩ := H
 try dsimp only at H
 replace H := itB H
 rcases H with ⟨rfl, H⟩ | ⟨rfl, H⟩
 ·replace H := bA H
  obtain ⟨⟨t439, t440, t441, t442, t445, t448, t451⟩, A4, H⟩ := H
  try dsimp only at H
  replace H := bA H
  obtain ⟨t453, A5, H⟩ := H
  try dsimp only at H
  split at H
  case isFalse => cases H
  case isTrue hsl_ =>
  obtain rfl := Option.some.inj H
  go_enter Tryz.func18, Tryz.ntmps18
  go_wp2_with (first | ((with_reducible refine gate_dst (N := 1) rfl ?_); refine bx_ 1 #[.slice A0_0 l0_0.length c0_0, .int .i64 a0_1] 26 ?_; intro gb437 hg w6 hbox hb; have BK437 := Aside0.mk (hbox); have GW437 := gs_ hg; replace HB := Aside0.mk (below_step oB hb); clear hb hbox hg; obtain ⟨⟨_, _⟩, _, _⟩ := z2 BK437) | ((with_reducible refine gate_callee (f := 17) rfl ?_); refine gl_ 7 Tryz.func17 (impl_TreeOk.calls k _ _ l0_0 a0_1 true _ (kC HR0_0) HC0_0.out A2.out) ?_; rintro e w8 ⟨rfl, hb⟩; refine ⟨_, rfl, ?_⟩; replace BK437 := kb_ BK437 hb; replace HB := Aside0.mk (below_step oB hb); obtain ⟨⟨_, _⟩, _, _⟩ := z2 BK437) | ((with_reducible refine gate_callee (f := 42) rfl ?_); refine gl_ 11 Tryz.func42 (impl_InodeAt.calls k _ _ l0_0 a0_1 1 t439 t440 t441 t442 t445 t448 t451 _ (kC HR0_0) HC0_0.out A4.out) ?_; rintro e w10 ⟨v443, v446, v449, rfl, ho0, ho1, ho2, hb⟩; refine ⟨_, rfl, ?_⟩; have HO444 := Aside0.mk (Kd.R_lower ho0 (below_size oB)); have HO447 := Aside0.mk (Kd.R_lower ho1 (below_size oB)); have HO450 := Aside0.mk (Kd.R_lower ho2 (below_size oB)); replace BK437 := kb_ BK437 hb; replace HB := Aside0.mk (below_step oB hb); (try clear ho1); (try clear ho2)) | ((with_reducible refine gate_dst (N := 3) rfl ?_); refine bx_ 3 #[.int .i64 0, .int .i64 0, .int .i64 0, .slice none 0 0, .slice none 0 0, .slice none 0 0] 51 ?_; intro gb452 hg w11 hbox hb; have BK452 := Aside0.mk (hbox); have GW452 := gs_ hg; have NB437_452 := nl_ hg BK437; have NB452_437 := nr_ hg BK437; replace HO444 := kr_ HO444 hb; replace HO447 := kr_ HO447 hb; replace HO450 := kr_ HO450 hb; replace BK437 := kb_ BK437 hb; replace HB := Aside0.mk (below_step oB hb); clear hb hbox hg; have hnb12 := NB452_437.out; have hnc12 := NB437_452.out; obtain ⟨⟨_, _, _, _, _, _⟩, _, _, _, _, _, _⟩ := z6 BK452; obtain ⟨Ao14, co14, eo14⟩ := Kd.R_slice HO444.out; subst eo14; obtain ⟨Ao15, co15, eo15⟩ := Kd.R_slice HO447.out; subst eo15; obtain ⟨Ao16, co16, eo16⟩ := Kd.R_slice HO450.out; subst eo16; obtain ⟨⟨_, _⟩, _, _⟩ := z2 BK437) | ((with_reducible refine gate_callee (f := 43) rfl ?_); refine gl_ 16 Tryz.func43 (impl_pathsBelow.calls k _ _ l0_0 a0_1 t439 t440 t441 _ _ t442 _ _ t445 _ _ t448 (⟨#[]⟩ : ByteArray) t453 _ ?side1 HC0_0.out (rcR1 HO444 BK452) (ko HO444) (rcR1 HO447 BK452) (ko HO447) (rcR1 HO450 BK452) (ko HO450) A5.out) ?_; (case side1 => exact Kd.C_below HR0_0.out oB); rintro e w18 ⟨v454, rfl, ho0, hb⟩; refine ⟨_, rfl, ?_⟩; have HO455 := Aside0.mk (Kd.R_lower ho0 (below_size oB)); replace HO444 := beR1 HO444 BK452 hb; replace HO447 := beR1 HO447 BK452 hb; replace HO450 := beR1 HO450 BK452 hb; replace BK437 := kb_ BK437 hb; replace BK452 := kp_ #[.int .i64 t439, .int .i64 t440, .int .i64 t441, .slice Ao14 t442.length co14, .slice Ao15 t445.length co15, .slice Ao16 t448.length co16] BK452 hb; replace HB := Aside0.mk (below_step oB hb); (try clear hk); obtain ⟨Aq_, cq_, eq_⟩ := Kd.R_slice HO455.out; subst eq_) | (go_at_call 44; refine (sortOwnS.calls Aq_ cq_ w.heap.size (fun _ => True) t453 _ (oR HO455) hsl_).mono ?_; rintro e w9_ ⟨rfl, hs_, hg_⟩))
  go_ret
  exact ⟨_, oE, hs_, (oB : Below w.heap.size w _).grown hg_ (below_size oB) (fun k_ hk_ => Kd.R_base hs_ k_ hk_)⟩
 ·obtain rfl := Option.some.inj H
  go_enter Tryz.func18, Tryz.ntmps18
  go_wp2_with (first | ((with_reducible refine gate_dst (N := 1) rfl ?_); refine bx_ 1 #[.slice A0_0 l0_0.length c0_0, .int .i64 a0_1] 26 ?_; intro gb437 hg w19 hbox hb; have BK437 := Aside0.mk (hbox); have GW437 := gs_ hg; replace HB := Aside0.mk (below_step oB hb); clear hb hbox hg; obtain ⟨⟨_, _⟩, _, _⟩ := z2 BK437) | ((with_reducible refine gate_callee (f := 17) rfl ?_); refine gl_ 7 Tryz.func17 (impl_TreeOk.calls k _ _ l0_0 a0_1 false _ (kC HR0_0) HC0_0.out A2.out) ?_; rintro e w21 ⟨rfl, hb⟩; refine ⟨_, rfl, ?_⟩; replace BK437 := kb_ BK437 hb; replace HB := Aside0.mk (below_step oB hb)))
  go_ret
  exact ⟨_, oE, by first | exact Kd.R_nil _ _ _ _ _ | exact Kd.N_nil _ _ _ _ _ | exact Kd.V_nil _ _ _ _ _ | exact Kd.Q_nil _ _ _ _ _ | exact Kd.S_nil _ _ _ _ _, oB⟩

end Go.Proofs.YtkcfmbggdkkfeaaGreatDoor.P
