-- By this session's own program (wip/myprint.py) out of the translation; Lean checks it.
import Derived.Test.YtkcfmbggdkkfeaaGreatDoorPx0
import Derived.Test.YtkcfmbggdkkfeaaGreatDoorPx2
import Derived.Test.YtkcfmbggdkkfeaaGreatDoorPx3
import Derived.Test.YtkcfmbggdkkfeaaGreatDoorPx6
import Derived.Test.YtkcfmbggdkkfeaaGreatDoorPx8
import Derived.Test.YtkcfmbggdkkfeaaGreatDoorPx9
import Derived.Test.YtkcfmbggdkkfeaaGreatDoorPx10
namespace Go.Proofs.YtkcfmbggdkkfeaaGreatDoor.P
open Go.RowKit Go.Proofs.YtkcfmbggdkkfeaaGreatDoorW.PrintWords Go.Proofs.YtkcfmbggdkkfeaaGreatDoorW.PrintLast Go.Proofs.YtkcfmbggdkkfeaaGreatDoorW.PrintMore
attribute [local go_sem] max2_int min2_int max_two min_two max_three min_three max_four min_four   -- for this text's walks alone
set_option linter.unusedVariables false
set_option linter.unusedSimpArgs false

/-! ### impl_spot_enter: function 59 -/
def gtS (a b : ByteArray) : Bool := !(Op.bytesLess a.toList b.toList || a.toList == b.toList)
def gtN (s : ByteArray) : List S65 → Nat → Int
 | [], _ => -1
 | x :: l, i => if gtS x.f0 s = true then (i : Int) else gtN s l (i + 1)
theorem entGt1.calls (s a : ByteArray) (b : Int) (B : Nat) (W : World) (hB : B < W.heap.size) (hc : W.cell? ⟨B, 6, none⟩ = some (.string s)) :
  Calls Tryz.prog 80 #[.agg #[.string a, .int .i64 b], .pointer (some ⟨B, 0, none⟩)] W fun e w' => e = .returned (.bool (gtS a s)) ∧ Below W.heap.size W w' := by
 have hne : B ≠ W.heap.size := by omega
 go_enter Tryz.func80, Tryz.ntmps80
 go_wp2
 all_goals (go_ret; exact ⟨by simp_all [gtS], (Below.refl _ W).alloc (Nat.le_refl _) _⟩)
theorem erd_at (l : List S65) (k : Nat) (h : k < l.length) : rd_T65 l (k : Int) = l[k] := by
 simp [rd_T65, List.getD_eq_getElem?_getD, List.getElem?_eq_getElem h]
theorem gtN_hit (s : ByteArray) (l : List S65) (k j : Nat) (h : k < l.length) (hit : gtS (rd_T65 l (k : Int)).f0 s = true) : gtN s (l.drop k) j = (j : Int) := by
 rw [List.drop_eq_getElem_cons h, gtN, if_pos (by rw [← erd_at l k h]; exact hit)]
theorem gtN_miss (s : ByteArray) (l : List S65) (k j : Nat) (h : k < l.length) (hit : gtS (rd_T65 l (k : Int)).f0 s = false) : gtN s (l.drop k) j = gtN s (l.drop (k + 1)) (j + 1) := by
 rw [List.drop_eq_getElem_cons h, gtN, if_neg (by rw [← erd_at l k h, hit]; decide)]
set_option maxHeartbeats 400000 in
set_option maxRecDepth 100000 in
theorem entGt2.calls (s : ByteArray) (A0 : Option Addr) (c0 : Nat) (l : List S65) (B : Nat) (w : World) (hr : k65.C w A0 l.length l) (hB : B < w.heap.size) (hc : w.cell? ⟨B, 6, none⟩ = some (.string s)) (hl : l.length ≤ 9223372036854775807) :
  Calls Tryz.prog 79 #[.slice A0 l.length c0, .func (.func 80) #[] #[.pointer (some ⟨B, 0, none⟩)]] w fun e w' => e = .returned (.int .i64 (gtN s l 0)) ∧ Below w.heap.size w w' := by
 go_enter Tryz.func79, Tryz.ntmps79
 go_wp2
 go_loopg [5, 8] l.length (fun gg _ s8 wr => ∃ kk : Nat, kk ≤ l.length ∧ l.length - kk ≤ gg ∧ s8 = .int .i64 kk ∧ Aside0 (Below w.heap.size w wr) ∧ Aside0 (gtN s l 0 = gtN s (l.drop kk) kk))
 case atStart => exact ⟨0, Nat.zero_le _, by omega, rfl, ⟨Below.refl _ w⟩, ⟨rfl⟩⟩
 case round =>
  obtain ⟨kk, hkk, hg, rfl, BW, A⟩ := hrel
  by_cases hlt : kk < l.length
  ·have hltz : (kk : Int) < (l.length : Int) := by omega
   obtain ⟨ad, e0, h0, h1⟩ := at_T65 (Kd.C_below hr BW.out) (kk : Int) (by omega) hltz
   cases e0
   rw [Int.toNat_natCast] at h0 h1
   have hBw : B < wr.heap.size := Nat.lt_of_lt_of_le hB BW.out.size
   have hcw : wr.cell? ⟨B, 6, none⟩ = some (.string s) := (BW.out.cell (p := ⟨B, 6, none⟩) hB).trans hc
   cases hq : gtS (rd_T65 l (kk : Int)).f0 s with
   | true =>
    go_wp2_with (go_at_call 80; refine (entGt1.calls s _ _ B wr hBw hcw).mono ?_; rintro e w' ⟨rfl, hb'⟩; rw [hq])
    go_ret
    exact ⟨by rw [A.out, gtN_hit s l kk kk hlt hq]; rfl, below_then BW.out BW.out.size hb'⟩
   | false =>
    go_wp2_with (go_at_call 80; refine (entGt1.calls s _ _ B wr hBw hcw).mono ?_; rintro e w' ⟨rfl, hb'⟩; rw [hq])
    go_roundg (l.length - (kk + 1))
    case measure => omega
    case rel => exact ⟨kk + 1, by omega, by omega, by go_num, ⟨below_then BW.out BW.out.size hb'⟩, ⟨by rw [A.out, gtN_miss s l kk kk hlt hq]⟩⟩
  ·have hltz : ¬ (kk : Int) < (l.length : Int) := by omega
   obtain rfl : kk = l.length := by omega
   go_wp2
   go_ret
   exact ⟨by rw [A.out, List.drop_length]; rfl, BW.out⟩
theorem gtN_spec (s : ByteArray) (l : List S65) : ∀ j : Nat, gtN s l j = -1 ∨ ∃ i : Nat, gtN s l j = ((j + i : Nat) : Int) ∧ i < l.length := by
 induction l with
 | nil => intro j; exact .inl rfl
 | cons x l ih =>
  intro j
  rw [gtN]
  split
  ·exact .inr ⟨0, by simp, by simp⟩
  ·rcases ih (j + 1) with h | ⟨i, h, hi⟩
   ·exact .inl h
   ·exact .inr ⟨i + 1, by rw [h]; omega, by simp only [List.length_cons]; omega⟩
def posN (s : ByteArray) (l : List S65) : Nat := if gtN s l 0 < 0 then l.length else (gtN s l 0).toNat
def encE (x : S65) : List Value := [.string x.f0, .int .i64 x.f1]
def impl_spot_enter.f (k : Nat) (a0_0 a0_1 a0_2 : Int) (l0_3 : List Int) (l0_4 : List S65) (l0_5 : List S71) (a0_6 : ByteArray) (l1_0 : List S51) (a1_1 a2 : Int) : Option (List S51 × Int) :=
 (slices_Clone_Ent.f l0_4).bind fun y => if posN a0_6 l0_4 ≤ y.length ∧ (y.length + 1) * 24 ≤ 140737488355328 ∧ l0_4.length ≤ 9223372036854775807 then impl_SetInode.f k l1_0 a1_1 a0_0 a0_1 a0_2 l0_3 (y.take (posN a0_6 l0_4) ++ [⟨a0_6, a2⟩] ++ y.drop (posN a0_6 l0_4)) l0_5 else none
set_option maxHeartbeats 4000000 in
set_option maxRecDepth 100000 in
theorem impl_spot_enter.calls (k : Nat) (a0_0 a0_1 a0_2 : Int) (A0_3 : Option Addr) (c0_3 : Nat) (l0_3 : List Int) (A0_4 : Option Addr) (c0_4 : Nat) (l0_4 : List S65) (A0_5 : Option Addr) (c0_5 : Nat) (l0_5 : List S71) (a0_6 : ByteArray) (A1_0 : Option Addr) (c1_0 : Nat) (l1_0 : List S51) (a1_1 a2 : Int) (r1 : List S51) (r2 : Int) (w : World)
  (hr0_3 : Kd.C (Kd.int .u8) w A0_3 l0_3.length l0_3) (hc0_3 : l0_3.length ≤ c0_3) (hr0_4 : Kd.C k65 w A0_4 l0_4.length l0_4) (hc0_4 : l0_4.length ≤ c0_4) (hr0_5 : Kd.C k71 w A0_5 l0_5.length l0_5) (hc0_5 : l0_5.length ≤ c0_5) (hr1_0 : Kd.C k51 w A1_0 l1_0.length l1_0) (hc1_0 : l1_0.length ≤ c1_0) (h : impl_spot_enter.f k a0_0 a0_1 a0_2 l0_3 l0_4 l0_5 a0_6 l1_0 a1_1 a2 = some (r1, r2)) :
  Calls Tryz.prog 59 #[.agg #[.int .i64 a0_0, .int .i64 a0_1, .int .i64 a0_2, .slice A0_3 l0_3.length c0_3, .slice A0_4 l0_4.length c0_4, .slice A0_5 l0_5.length c0_5, .string a0_6], .agg #[.slice A1_0 l1_0.length c1_0, .int .i64 a1_1], .int .i64 a2] w fun e w' => ∃ v0_ : Value, e = .returned (.agg #[v0_, .int .i64 r2]) ∧ Kd.S k51 51 w' w.heap.size (fun _ => True) v0_ r1 ∧ Below w.heap.size w w' := by
 unfold impl_spot_enter.f at h
 replace h := bA h
 obtain ⟨y, H1, h⟩ := h
 split at h
 case isFalse => cases h
 case isTrue hl =>
 have HPY := Aside0.mk hl.1
 have H24 := Aside0.mk hl.2.1
 have HL4 := Aside0.mk hl.2.2
 obtain ⟨Y, hY⟩ : ∃ Y, Y = (y.take (posN a0_6 l0_4) ++ [(⟨a0_6, a2⟩ : S65)] ++ y.drop (posN a0_6 l0_4)) := ⟨_, rfl⟩
 rw [← hY] at h
 have HY := Aside0.mk hY
 have H2 := Aside0.mk h
 have HR3 := Aside0.mk hr0_3
 have HC3 := Aside0.mk hc0_3
 have HR4 := Aside0.mk hr0_4
 have HC4 := Aside0.mk hc0_4
 have HR5 := Aside0.mk hr0_5
 have HC5 := Aside0.mk hc0_5
 have HR0 := Aside0.mk hr1_0
 have HC0 := Aside0.mk hc1_0
 clear hl h hY hr0_3 hc0_3 hr0_4 hc0_4 hr0_5 hc0_5 hr1_0 hc1_0
 have HB := Aside0.mk (Below.refl w.heap.size w)
 go_enter Tryz.func59, Tryz.ntmps59
 go_upto_if 14 with (first | ((with_reducible refine gate_dst (N := 3) rfl ?_); refine bx_ 3 #[.int .i64 a0_0, .int .i64 a0_1, .int .i64 a0_2, .slice A0_3 l0_3.length c0_3, .slice A0_4 l0_4.length c0_4, .slice A0_5 l0_5.length c0_5, .string a0_6] 84 ?_; intro gb3 hg w1 hbox hb; have BK3 := Aside0.mk hbox; have GW3 := gs_ hg; replace HB := Aside0.mk (below_step oB hb); clear hb hbox hg) | ((with_reducible refine gate_dst (N := 4) rfl ?_); refine bx_ 4 #[.slice A1_0 l1_0.length c1_0, .int .i64 a1_1] 26 ?_; intro gb4 hg w2 hbox hb; have BK4 := Aside0.mk hbox; have GW4 := gs_ hg; have NB34 := nl_ hg BK3; have NB43 := nr_ hg BK3; replace BK3 := kb_ BK3 hb; replace HB := Aside0.mk (below_step oB hb); clear hb hbox hg) | ((with_reducible refine gate_dst (N := 6) rfl ?_); refine bx_ 6 #[.slice none 0 0, .int .i64 0] 26 ?_; intro gb6 hg w3 hbox hb; have BK6 := Aside0.mk hbox; have GW6 := gs_ hg; have NB36 := nl_ hg BK3; have NB63 := nr_ hg BK3; have NB46 := nl_ hg BK4; have NB64 := nr_ hg BK4; replace BK3 := kb_ BK3 hb; replace BK4 := kb_ BK4 hb; replace HB := Aside0.mk (below_step oB hb); clear hb hbox hg; obtain ⟨⟨_, _, _, _, _, _, _⟩, _, _, _, _, _, _, _⟩ := z7 BK3) | (go_at_call 79; refine (entGt2.calls a0_6 A0_4 c0_4 l0_4 gb3 _ (kC HR4) (blk_lt (oF BK3)) ((blk_cell (oF BK3) 6).trans rfl) HL4.out).mono ?_; rintro e w4 ⟨rfl, hb⟩; replace BK3 := kb_ BK3 hb; replace BK4 := kb_ BK4 hb; replace BK6 := kb_ BK6 hb; replace HB := Aside0.mk (below_step oB hb); clear hb))
 (try simp only [Act.put, List.setIfInBounds_toArray, List.set_cons_zero, List.set_cons_succ])
 go_cut [7] (fun v7 wc => v7 = .int .i64 ((posN a0_6 l0_4 : Nat) : Int) ∧ Aside0 (wc.heap[gb3]? = some (.cells #[.int .i64 a0_0, .int .i64 a0_1, .int .i64 a0_2, .slice A0_3 l0_3.length c0_3, .slice A0_4 l0_4.length c0_4, .slice A0_5 l0_5.length c0_5, .string a0_6] 84 (0, 0))) ∧ Aside0 (wc.heap[gb4]? = some (.cells #[.slice A1_0 l1_0.length c1_0, .int .i64 a1_1] 26 (0, 0))) ∧ Aside0 (wc.heap[gb6]? = some (.cells #[.slice none 0 0, .int .i64 0] 26 (0, 0))) ∧ Aside0 (Below w.heap.size w wc))
 case first =>
  obtain ⟨⟨_, _, _, _, _, _, _⟩, _, _, _, _, _, _, _⟩ := z7 BK3
  rcases gtN_spec a0_6 l0_4 0 with hgt | ⟨j, hgt, hj⟩
  ·have hpo : posN a0_6 l0_4 = l0_4.length := by unfold posN; rw [hgt]; rfl
   have hj0 : decide ((-1 : Int) < 0) = true := rfl
   rw [hgt]
   go_wp2
   go_meet
   case rel => exact ⟨by rw [hpo], ⟨oF BK3⟩, ⟨oF BK4⟩, ⟨oF BK6⟩, ⟨oB⟩⟩
  ·have hpo : posN a0_6 l0_4 = j := by unfold posN; rw [hgt, if_neg (by omega)]; omega
   have hj0 : decide (((0 + j : Nat) : Int) < 0) = false := decide_eq_false (by omega)
   rw [hgt]
   go_wp2
   go_meet
   case rel => exact ⟨by rw [hpo, Nat.zero_add], ⟨oF BK3⟩, ⟨oF BK4⟩, ⟨oF BK6⟩, ⟨oB⟩⟩
 case rest =>
  obtain ⟨rfl, BK3, BK4, BK6, HB⟩ := hcut
  try go_wp2
  replace BK3 := Aside0.mk (blk_drew BK3.out)
  replace BK4 := Aside0.mk (blk_drew BK4.out)
  replace BK6 := Aside0.mk (blk_drew BK6.out)
  replace HB := Aside0.mk (below_drew1 HB.out)
  refine start_ (n := 14) (S := fun w' => w'.cell? ⟨gb3, 4, none⟩ = some (.slice A0_4 l0_4.length c0_4) ∧ w'.cell? ⟨gb3, 6, none⟩ = some (.string a0_6)) (ds := [13]) (lb 14 0) (by kernel_rfl) rfl rfl oH (fun hHeld => ?_)
  generalize wc.drew = w5 at BK3 BK4 BK6 HB hHeld ⊢
  refine p0_ 0 19 ?_
  refine p0_ 1 20 ?_
  refine t0_ 2 21 hHeld ?_
  refine p0_ 4 23 ?_
  refine p0_ 5 24 ?_
  refine t0_ 6 25 hHeld ?_
  refine p0_ 7 26 ?_
  refine p0_ 8 27 ?_
  refine join_ (σ := Value × Nat) 4 (lb 14 1023) (fun s_ => [(22, s_.1), (28, .slice (some ⟨s_.2, 0, none⟩) 1 1)]) (fun s_ w' => (w'.cell? ⟨gb3, 4, none⟩ = some (.slice A0_4 l0_4.length c0_4) ∧ w'.cell? ⟨gb3, 6, none⟩ = some (.string a0_6)) ∧ Kd.R k65 65 w' w.heap.size (fun k_ => k_ ≠ gb3 ∧ k_ ≠ gb4 ∧ k_ ≠ gb6 ∧ k_ ≠ s_.2) s_.1 y ∧ w'.heap[s_.2]? = some (.cells #[.string a0_6, .int .i64 a2] 65 (0, 0)) ∧ w'.heap[gb3]? = some (.cells #[.int .i64 a0_0, .int .i64 a0_1, .int .i64 a0_2, .slice A0_3 l0_3.length c0_3, .slice A0_4 l0_4.length c0_4, .slice A0_5 l0_5.length c0_5, .string a0_6] 84 (0, 0)) ∧ w'.heap[gb4]? = some (.cells #[.slice A1_0 l1_0.length c1_0, .int .i64 a1_1] 26 (0, 0)) ∧ w'.heap[gb6]? = some (.cells #[.slice none 0 0, .int .i64 0] 26 (0, 0)) ∧ Below w.heap.size w w') ?_ ?_
  rotate_left
  ·intro hCont
   refine two_ (i := 3) (j := 9) (Ni := some 22) (Nj := some 28) (lb 14 511) (lb 14 1015) rfl rfl rfl rfl (by kernel_rfl) (by decide) (by decide) (fun K hK => ?_) (fun K hK => ?_)
   ·refine gr_ 22 Tryz.func82 (slices_Clone_Ent.calls _ _ l0_4 y _ (kC HR4) HC4.out H1.out) ?_
    rintro e w6 ⟨v22, rfl, ho, hb⟩
    refine ⟨_, rfl, ?_⟩
    have HO := Aside0.mk (Kd.R_lower (Kd.R_newB (Kd.R_newB (Kd.R_newB ho (oF BK3)) (oF BK4)) (oF BK6)) (below_size oB))
    replace BK3 := kb_ BK3 hb
    replace BK4 := kb_ BK4 hb
    replace BK6 := kb_ BK6 hb
    replace HB := Aside0.mk (below_step oB hb)
    clear hb ho
    refine hk_ hK 22 oH (fun hHeld => ?_)
    clear hK K
    refine o0_ 9 28 (fun K hK => ?_)
    refine event_step (v := .slice (some ⟨w6.heap.size, 0, none⟩) 1 1) (w1 := w6.alloc (.cells #[.string a0_6, .int .i64 a2] 65)) (by rfl) (by first | (go_simp; done) | (go_simp; rfl)) ?_
    refine hk_ hK 28 ⟨(World.cell?_alloc_lt _ _ _ (blk_lt BK3.out)).trans hHeld.1, (World.cell?_alloc_lt _ _ _ (blk_lt BK3.out)).trans hHeld.2⟩ (fun hHeld => ?_)
    clear hK K
    exact norm_ (by simp only [putAll, Act.put, List.setIfInBounds_toArray, List.set_cons_zero, List.set_cons_succ]) (hCont (v22, w6.heap.size) _ ⟨hHeld, Kd.R_alloc (Kd.R_mono (Kd.R_bound HO.out) (fun _ hk => ⟨hk.1.1.1.2, hk.1.1.2, hk.1.2, Nat.ne_of_lt hk.2.2.1⟩)) _, blk_new _ _, blk_alloc BK3.out _, blk_alloc BK4.out _, blk_alloc BK6.out _, below_alloc HB.out _⟩)
   ·refine event_step (v := .slice (some ⟨w5.heap.size, 0, none⟩) 1 1) (w1 := w5.alloc (.cells #[.string a0_6, .int .i64 a2] 65)) (by rfl) (by first | (go_simp; done) | (go_simp; rfl)) ?_
    refine hk_ hK 28 ⟨(World.cell?_alloc_lt _ _ _ (blk_lt BK3.out)).trans hHeld.1, (World.cell?_alloc_lt _ _ _ (blk_lt BK3.out)).trans hHeld.2⟩ (fun hHeld => ?_)
    clear hK K
    have BK9 := Aside0.mk (blk_new w5 (.cells #[.string a0_6, .int .i64 a2] 65))
    replace BK3 := Aside0.mk (blk_alloc BK3.out (.cells #[.string a0_6, .int .i64 a2] 65))
    replace BK4 := Aside0.mk (blk_alloc BK4.out (.cells #[.string a0_6, .int .i64 a2] 65))
    replace BK6 := Aside0.mk (blk_alloc BK6.out (.cells #[.string a0_6, .int .i64 a2] 65))
    replace HB := Aside0.mk (below_alloc HB.out (.cells #[.string a0_6, .int .i64 a2] 65))
    generalize w5.alloc (.cells #[.string a0_6, .int .i64 a2] 65) = w6 at BK3 BK4 BK6 BK9 HB hHeld ⊢
    refine o0_ 3 22 (fun K hK => ?_)
    refine gr_ 22 Tryz.func82 (slices_Clone_Ent.calls _ _ l0_4 y _ (kC HR4) HC4.out H1.out) ?_
    rintro e w7 ⟨v22, rfl, ho, hb⟩
    refine ⟨_, rfl, ?_⟩
    have HO := Aside0.mk (Kd.R_lower (Kd.R_newB (Kd.R_newB (Kd.R_newB (Kd.R_newB ho (oF BK3)) (oF BK4)) (oF BK6)) (oF BK9)) (below_size oB))
    replace BK3 := kb_ BK3 hb
    replace BK4 := kb_ BK4 hb
    replace BK6 := kb_ BK6 hb
    replace BK9 := kb_ BK9 hb
    replace HB := Aside0.mk (below_step oB hb)
    clear hb ho
    refine hk_ hK 22 oH (fun hHeld => ?_)
    clear hK K
    exact norm_ (by simp only [putAll, Act.put, List.setIfInBounds_toArray, List.set_cons_zero, List.set_cons_succ]) (hCont (v22, w5.heap.size) _ ⟨hHeld, Kd.R_mono HO.out (fun _ hk => ⟨hk.1.1.1.2, hk.1.1.2, hk.1.2, hk.2⟩), BK9.out, BK3.out, BK4.out, BK6.out, HB.out⟩)
  clear BK3 BK4 BK6 HB hHeld
  rintro ⟨v22, g9⟩ w7 ⟨hHeld, hR, hG, b3, b4, b6, hB⟩
  dsimp only at hR hG
  have BK3 := Aside0.mk b3
  have BK4 := Aside0.mk b4
  have BK6 := Aside0.mk b6
  have HB := Aside0.mk hB
  clear b3 b4 b6 hB
  obtain ⟨A9, c9, rfl⟩ := Kd.R_slice hR
  refine norm_ (a' := ?_) ?_ ?_
  rotate_left
  ·simp only [putAll, Act.put, List.setIfInBounds_toArray, List.set_cons_zero, List.set_cons_succ]
   rfl
  refine o0_ 10 29 (fun K hK => ?_)
  refine gr_ 29 Tryz.func81 (insEnt.calls A9 y.length c9 (posN a0_6 l0_4) g9 w.heap.size _ (y.map encE) [.string a0_6, .int .i64 a2] w _ HPY.out (List.length_map ..) (rawR (d := k65) encE (fun _ _ _ _ _ h => k65_openM h) hR) hG (Kd.R_away hR (fun _ hk => hk.2.2.2)) rfl (by simp; exact ⟨rfl, rfl⟩) HB.out (below_size HB.out) H24.out) ?_
  rintro e w8 ⟨v', rfl, hr8, hb8, hg8, hat8⟩
  refine ⟨_, rfl, ?_⟩
  rw [show (y.map encE).take (posN a0_6 l0_4) ++ [[.string a0_6, .int .i64 a2]] ++ (y.map encE).drop (posN a0_6 l0_4) = Y.map encE from by rw [HY.out]; simp [List.map_take, List.map_drop, encE]] at hr8
  have HR8 := Aside0.mk (Kd.R_mono (ok' := fun k_ => k_ ≠ gb3 ∧ k_ ≠ gb4 ∧ k_ ≠ gb6) (unrawR (d := k65) encE (fun _ _ _ x => k65_mkM _ _ _ x) hr8) (fun k_ hk => by
   have l3 := blk_lt BK3.out
   have l4 := blk_lt BK4.out
   have l6 := blk_lt BK6.out
   rcases hk with h | h
   ·have := hR.1 k_ h.symm
    exact ⟨this.1, this.2.1, this.2.2.1⟩
   ·exact ⟨by omega, by omega, by omega⟩))
  replace BK3 := Aside0.mk (blk_grown BK3.out hg8 (Kd.R_away hR (fun _ hk => hk.1)))
  replace BK4 := Aside0.mk (blk_grown BK4.out hg8 (Kd.R_away hR (fun _ hk => hk.2.1)))
  replace BK6 := Aside0.mk (blk_grown BK6.out hg8 (Kd.R_away hR (fun _ hk => hk.2.2.1)))
  replace HB := Aside0.mk hb8
  obtain ⟨A8, c8, rfl⟩ := Kd.R_slice HR8.out
  clear hr8 hb8 hg8 hat8 hR hG hHeld
  refine hk_ hK 29 oH (fun hHeld => ?_)
  clear hK K
  refine p0_ 11 30 ?_
  refine p0_ 12 31 ?_
  refine last_ (i := 13) (N := none) (lb 14 16383) rfl rfl (by kernel_rfl) (by decide) (fun K hK => ?_)
  obtain ⟨⟨_, _, _, _, _, _, _⟩, _, _, _, _, _, _, _⟩ := z7 BK3
  refine skip_ (w1 := ?_) (by rfl) rfl ?_ ?_
  rotate_left
  ·go_simp
   rfl
  refine hK.out _ _ ?_
  clear hK K
  refine done_ (by kernel_rfl) ?_
  have n3_ : Aside0 ((w8.setCell ⟨gb3, 4, none⟩ (.slice A8 Y.length c8)).heap[gb3]? = some (.cells #[.int .i64 a0_0, .int .i64 a0_1, .int .i64 a0_2, .slice A0_3 l0_3.length c0_3, .slice A8 Y.length c8, .slice A0_5 l0_5.length c0_5, .string a0_6] 84 (0, 0))) := ⟨oP BK3⟩
  have n4_ := Aside0.mk (Kd.R_far (p := ⟨gb3, 4, none⟩) HR8.out (fun _ hk => hk.1) (.slice A8 Y.length c8))
  generalize hW_ : w8.setCell ⟨gb3, 4, none⟩ (.slice A8 Y.length c8) = w9 at n3_ n4_ ⊢
  replace BK4 := kw_ hW_ BK4
  replace BK6 := kw_ hW_ BK6
  replace HB := hw_ hW_ HB
  clear BK3 HR8 hW_
  obtain ⟨⟨_, _, _, _, _, _, _⟩, _, _, _, _, _, _, _⟩ := z7 n3_
  obtain ⟨⟨_, _⟩, _, _⟩ := z2 BK4
  go_wp2_with ((with_reducible refine gate_callee (f := 50) rfl ?_); refine gl_ 35 Tryz.func50 (impl_SetInode.calls k _ _ l1_0 a1_1 a0_0 a0_1 a0_2 _ _ l0_3 _ _ Y _ _ l0_5 r1 r2 _ (kC HR0) HC0.out (kC HR3) HC3.out (kO n4_) (ko n4_) (kC HR5) HC5.out H2.out) ?_; rintro e w10 ⟨v0, rfl, hs, hb⟩; refine ⟨_, rfl, ?_⟩; obtain ⟨A0, c0, rfl⟩ := Kd.S_slice hs; have HS := siv' hs w9.heap.size w.heap.size (Nat.le_refl _) (below_size HB.out); have hl6 := Aside0.mk (blk_lt BK6.out); replace BK6 := kb_ BK6 hb; replace HB := Aside0.mk (below_step oB hb); clear hs hb; obtain ⟨⟨_, _⟩, _, _⟩ := z2 BK6)
  refine bodyPost_ret (results_cell_row rfl _ _ gb6 26 #[.slice A0 r1.length c0, .int .i64 r2] (0, 0) _ rfl (oP BK6) Tryz.underlying26 rfl (by kernel_rfl)) rfl ?_
  exact ⟨_, rfl, Kd.S_mono (Kd.S_far (Kd.S_far HS.out (fun k_ hk => by have := hk.1; have := hl6.out; dsimp only; omega) _) (fun k_ hk => by have := hk.1; have := hl6.out; dsimp only; omega) _) (fun _ _ => trivial), oB⟩
/-! ### impl_Stat: function 28 -/
def impl_Stat.f (k : Nat) (l0_0 : List (S51)) (a0_1 : Int) (a1 : ByteArray) : Option (Int × Int × Int × List Int × (List (S65)) × (List (S71)) × Int) := (impl_Walk.f k l0_0 a0_1 a1).bind fun bt309 => (if bt309.2 = 0 then ((impl_InodeAt.f k l0_0 a0_1 bt309.1).bind fun bt311 => (if bt311.2.2.2.2.2.2 = true then (some (bt311.1, bt311.2.1, bt311.2.2.1, bt311.2.2.2.1, bt311.2.2.2.2.1, bt311.2.2.2.2.2.1, 0)) else (some (0, 0, 0, ([] : List Int), ([] : List (S65)), ([] : List (S71)), 2)))) else (some (0, 0, 0, ([] : List Int), ([] : List (S65)), ([] : List (S71)), bt309.2)))
set_option maxHeartbeats 8000000 in
set_option maxRecDepth 100000 in
theorem impl_Stat.calls (k : Nat) (A0_0 : Option Addr) (c0_0 : Nat) (l0_0 : List (S51)) (a0_1 : Int) (a1 : ByteArray) (r1 : Int) (r2 : Int) (r3 : Int) (r4 : List Int) (r5 : List (S65)) (r6 : List (S71)) (r7 : Int) (w : World) (hr0_0 : Kd.C k51 w A0_0 l0_0.length l0_0) (hc0_0 : l0_0.length ≤ c0_0) (h : impl_Stat.f k l0_0 a0_1 a1 = some (r1, r2, r3, r4, r5, r6, r7)) (hG : GOk w := by exact gk_ oB (by first | (with_reducible assumption) | assumption)) :
  Calls Tryz.prog 28 #[.agg #[.slice A0_0 l0_0.length c0_0, .int .i64 a0_1], .string a1] w fun e w' => ∃ v3_ v4_ v5_ : Value, e = .returned (.tuple #[.agg #[.int .i64 r1, .int .i64 r2, .int .i64 r3, v3_, v4_, v5_], .int .i64 r7]) ∧ Kd.R (Kd.int .u8) 5 w' w.heap.size (fun _ => True) v3_ r4 ∧ Kd.R k65 65 w' w.heap.size (fun _ => True) v4_ r5 ∧ Kd.R k71 71 w' w.heap.size (fun _ => True) v5_ r6 ∧ Below w.heap.size w w' := by
 have HG := Aside0.mk hG
 clear hG
 have hu26 := Tryz.underlying26
 have hu51 := Tryz.underlying51
 have HR0_0 := Aside0.mk hr0_0
 have HC0_0 := Aside0.mk hc0_0
 clear hr0_0 hc0_0
 have HB := Aside0.mk (Below.refl w.heap.size w)
 unfold impl_Stat.f at h
 have H := h
 clear h
 replace H := bA H
 obtain ⟨⟨t309, t310⟩, A3, H⟩ := H
 try dsimp only at H
 by_cases c4 : t310 = 0
 ·rw [if_pos c4] at H
  have c4b0 : (t310 == 0) = true := beq_iff_eq.mpr c4
  have c4b1 : (t310 != 0) = false := bne_eq_false_iff_eq.mpr c4
  clear c4
  replace H := bA H
  obtain ⟨⟨t311, t312, t313, t314, t317, t320, t323⟩, A5, H⟩ := H
  try dsimp only at H
  replace H := itB H
  rcases H with ⟨rfl, H⟩ | ⟨rfl, H⟩
  ·simp only [Option.some.injEq, Prod.mk.injEq] at H
   obtain ⟨rfl, rfl, rfl, rfl, rfl, rfl, rfl⟩ := H
   go_enter Tryz.func28, Tryz.ntmps28
   go_wp2_with (first | ((with_reducible refine gate_dst (N := 2) rfl ?_); refine bx_ 2 #[.slice A0_0 l0_0.length c0_0, .int .i64 a0_1] 26 ?_; intro gb307 hg w7 hbox hb; have BK307 := Aside0.mk (hbox); have GW307 := gs_ hg; replace HB := Aside0.mk (below_step oB hb); clear hb hbox hg) | ((with_reducible refine gate_dst (N := 4) rfl ?_); refine bx_ 4 #[.int .i64 0, .int .i64 0, .int .i64 0, .slice none 0 0, .slice none 0 0, .slice none 0 0] 51 ?_; intro gb308 hg w8 hbox hb; have BK308 := Aside0.mk (hbox); have GW308 := gs_ hg; have NB307_308 := nl_ hg BK307; have NB308_307 := nr_ hg BK307; replace BK307 := kb_ BK307 hb; replace HB := Aside0.mk (below_step oB hb); clear hb hbox hg; have hnb9 := NB307_308.out; have hnc9 := NB308_307.out; obtain ⟨⟨_, _⟩, _, _⟩ := z2 BK307) | ((with_reducible refine gate_callee (f := 31) rfl ?_); refine gl_ 13 Tryz.func31 (impl_Walk.calls k _ _ l0_0 a0_1 a1 t309 t310 _ (kC HR0_0) HC0_0.out A3.out) ?_; rintro e w11 ⟨rfl, hb⟩; refine ⟨_, rfl, ?_⟩; replace BK307 := kb_ BK307 hb; replace BK308 := kb_ BK308 hb; replace HB := Aside0.mk (below_step oB hb); obtain ⟨⟨_, _⟩, _, _⟩ := z2 BK307) | ((with_reducible refine gate_callee (f := 42) rfl ?_); refine gl_ 23 Tryz.func42 (impl_InodeAt.calls k _ _ l0_0 a0_1 t309 t311 t312 t313 t314 t317 t320 true _ (kC HR0_0) HC0_0.out A5.out) ?_; rintro e w13 ⟨v315, v318, v321, rfl, ho0, ho1, ho2, hb⟩; refine ⟨_, rfl, ?_⟩; have HO316 := Aside0.mk (Kd.R_lower ho0 (below_size oB)); have HO319 := Aside0.mk (Kd.R_lower ho1 (below_size oB)); have HO322 := Aside0.mk (Kd.R_lower ho2 (below_size oB)); replace BK307 := kb_ BK307 hb; replace BK308 := kb_ BK308 hb; replace HB := Aside0.mk (below_step oB hb); (try clear ho1); (try clear ho2)) | ((with_reducible refine gate_dst (N := 8) rfl ?_); refine bx_ 8 #[.int .i64 0, .int .i64 0, .int .i64 0, .slice none 0 0, .slice none 0 0, .slice none 0 0] 51 ?_; intro gb324 hg w14 hbox hb; have BK324 := Aside0.mk (hbox); have GW324 := gs_ hg; have NB307_324 := nl_ hg BK307; have NB324_307 := nr_ hg BK307; have NB308_324 := nl_ hg BK308; have NB324_308 := nr_ hg BK308; replace HO316 := kr_ HO316 hb; replace HO319 := kr_ HO319 hb; replace HO322 := kr_ HO322 hb; replace BK307 := kb_ BK307 hb; replace BK308 := kb_ BK308 hb; replace HB := Aside0.mk (below_step oB hb); clear hb hbox hg; have hnb15 := NB324_307.out; have hnc15 := NB307_324.out; have hnb16 := NB324_308.out; have hnc16 := NB308_324.out; obtain ⟨⟨_, _, _, _, _, _⟩, _, _, _, _, _, _⟩ := z6 BK324; obtain ⟨Ao18, co18, eo18⟩ := Kd.R_slice HO316.out; subst eo18; obtain ⟨Ao19, co19, eo19⟩ := Kd.R_slice HO319.out; subst eo19; obtain ⟨Ao20, co20, eo20⟩ := Kd.R_slice HO322.out; subst eo20; obtain ⟨⟨_, _, _, _, _, _⟩, _, _, _, _, _, _⟩ := z6 BK308))
   refine bodyPost_ret (results_ct rfl _ _ gb308 51 #[.int .i64 t311, .int .i64 t312, .int .i64 t313, .slice Ao18 t314.length co18, .slice Ao19 t317.length co19, .slice Ao20 t320.length co20] (0, 0) _ rfl (oP BK308) Tryz.underlying51 rfl (by kernel_rfl)) rfl ?_
   exact ⟨_, _, _, oE, by (with_reducible repeat (first | apply Kd.R_alloc | apply Kd.R_drewN | apply Kd.R_drew)); exact Kd.R_mono (Kd.R_far (p := ⟨gb308, 5, none⟩) (Kd.R_far (p := ⟨gb308, 4, none⟩) (Kd.R_far (p := ⟨gb308, 3, none⟩) (Kd.R_far (p := ⟨gb308, 2, none⟩) (Kd.R_far (p := ⟨gb308, 1, none⟩) (Kd.R_far (p := ⟨gb308, 0, none⟩) (Kd.R_far (p := ⟨gb324, 5, none⟩) (Kd.R_far (p := ⟨gb324, 4, none⟩) (Kd.R_far (p := ⟨gb324, 3, none⟩) (Kd.R_far (p := ⟨gb324, 2, none⟩) (Kd.R_far (p := ⟨gb324, 1, none⟩) (Kd.R_far (p := ⟨gb324, 0, none⟩) (Kd.R_types (Kd.R_types HO316.out BK324.out (by decide)) BK308.out (by decide)) (fun _ hk => hk.1.2) (.int .i64 t311)) (fun _ hk => hk.1.2) (.int .i64 t312)) (fun _ hk => hk.1.2) (.int .i64 t313)) (fun _ hk => hk.1.2) (.slice Ao18 t314.length co18)) (fun _ hk => hk.1.2) (.slice Ao19 t317.length co19)) (fun _ hk => hk.1.2) (.slice Ao20 t320.length co20)) (fun _ hk => hk.2) (.int .i64 t311)) (fun _ hk => hk.2) (.int .i64 t312)) (fun _ hk => hk.2) (.int .i64 t313)) (fun _ hk => hk.2) (.slice Ao18 t314.length co18)) (fun _ hk => hk.2) (.slice Ao19 t317.length co19)) (fun _ hk => hk.2) (.slice Ao20 t320.length co20)) (fun _ hk => trivial), by (with_reducible repeat (first | apply Kd.R_alloc | apply Kd.R_drewN | apply Kd.R_drew)); exact Kd.R_mono (Kd.R_far (p := ⟨gb308, 5, none⟩) (Kd.R_far (p := ⟨gb308, 4, none⟩) (Kd.R_far (p := ⟨gb308, 3, none⟩) (Kd.R_far (p := ⟨gb308, 2, none⟩) (Kd.R_far (p := ⟨gb308, 1, none⟩) (Kd.R_far (p := ⟨gb308, 0, none⟩) (Kd.R_far (p := ⟨gb324, 5, none⟩) (Kd.R_far (p := ⟨gb324, 4, none⟩) (Kd.R_far (p := ⟨gb324, 3, none⟩) (Kd.R_far (p := ⟨gb324, 2, none⟩) (Kd.R_far (p := ⟨gb324, 1, none⟩) (Kd.R_far (p := ⟨gb324, 0, none⟩) (Kd.R_types (Kd.R_types HO319.out BK324.out (by decide)) BK308.out (by decide)) (fun _ hk => hk.1.2) (.int .i64 t311)) (fun _ hk => hk.1.2) (.int .i64 t312)) (fun _ hk => hk.1.2) (.int .i64 t313)) (fun _ hk => hk.1.2) (.slice Ao18 t314.length co18)) (fun _ hk => hk.1.2) (.slice Ao19 t317.length co19)) (fun _ hk => hk.1.2) (.slice Ao20 t320.length co20)) (fun _ hk => hk.2) (.int .i64 t311)) (fun _ hk => hk.2) (.int .i64 t312)) (fun _ hk => hk.2) (.int .i64 t313)) (fun _ hk => hk.2) (.slice Ao18 t314.length co18)) (fun _ hk => hk.2) (.slice Ao19 t317.length co19)) (fun _ hk => hk.2) (.slice Ao20 t320.length co20)) (fun _ hk => trivial), by (with_reducible repeat (first | apply Kd.R_alloc | apply Kd.R_drewN | apply Kd.R_drew)); exact Kd.R_mono (Kd.R_far (p := ⟨gb308, 5, none⟩) (Kd.R_far (p := ⟨gb308, 4, none⟩) (Kd.R_far (p := ⟨gb308, 3, none⟩) (Kd.R_far (p := ⟨gb308, 2, none⟩) (Kd.R_far (p := ⟨gb308, 1, none⟩) (Kd.R_far (p := ⟨gb308, 0, none⟩) (Kd.R_far (p := ⟨gb324, 5, none⟩) (Kd.R_far (p := ⟨gb324, 4, none⟩) (Kd.R_far (p := ⟨gb324, 3, none⟩) (Kd.R_far (p := ⟨gb324, 2, none⟩) (Kd.R_far (p := ⟨gb324, 1, none⟩) (Kd.R_far (p := ⟨gb324, 0, none⟩) (Kd.R_types (Kd.R_types HO322.out BK324.out (by decide)) BK308.out (by decide)) (fun _ hk => hk.1.2) (.int .i64 t311)) (fun _ hk => hk.1.2) (.int .i64 t312)) (fun _ hk => hk.1.2) (.int .i64 t313)) (fun _ hk => hk.1.2) (.slice Ao18 t314.length co18)) (fun _ hk => hk.1.2) (.slice Ao19 t317.length co19)) (fun _ hk => hk.1.2) (.slice Ao20 t320.length co20)) (fun _ hk => hk.2) (.int .i64 t311)) (fun _ hk => hk.2) (.int .i64 t312)) (fun _ hk => hk.2) (.int .i64 t313)) (fun _ hk => hk.2) (.slice Ao18 t314.length co18)) (fun _ hk => hk.2) (.slice Ao19 t317.length co19)) (fun _ hk => hk.2) (.slice Ao20 t320.length co20)) (fun _ hk => trivial), oB⟩
  ·simp only [Option.some.injEq, Prod.mk.injEq] at H
   obtain ⟨rfl, rfl, rfl, rfl, rfl, rfl, rfl⟩ := H
   go_enter Tryz.func28, Tryz.ntmps28
   go_wp2_with (first | ((with_reducible refine gate_dst (N := 2) rfl ?_); refine bx_ 2 #[.slice A0_0 l0_0.length c0_0, .int .i64 a0_1] 26 ?_; intro gb307 hg w22 hbox hb; have BK307 := Aside0.mk (hbox); have GW307 := gs_ hg; replace HB := Aside0.mk (below_step oB hb); clear hb hbox hg) | ((with_reducible refine gate_dst (N := 4) rfl ?_); refine bx_ 4 #[.int .i64 0, .int .i64 0, .int .i64 0, .slice none 0 0, .slice none 0 0, .slice none 0 0] 51 ?_; intro gb308 hg w23 hbox hb; have BK308 := Aside0.mk (hbox); have GW308 := gs_ hg; have NB307_308 := nl_ hg BK307; have NB308_307 := nr_ hg BK307; replace BK307 := kb_ BK307 hb; replace HB := Aside0.mk (below_step oB hb); clear hb hbox hg; have hnb24 := NB307_308.out; have hnc24 := NB308_307.out; obtain ⟨⟨_, _⟩, _, _⟩ := z2 BK307) | ((with_reducible refine gate_callee (f := 31) rfl ?_); refine gl_ 13 Tryz.func31 (impl_Walk.calls k _ _ l0_0 a0_1 a1 t309 t310 _ (kC HR0_0) HC0_0.out A3.out) ?_; rintro e w26 ⟨rfl, hb⟩; refine ⟨_, rfl, ?_⟩; replace BK307 := kb_ BK307 hb; replace BK308 := kb_ BK308 hb; replace HB := Aside0.mk (below_step oB hb); obtain ⟨⟨_, _⟩, _, _⟩ := z2 BK307) | ((with_reducible refine gate_callee (f := 42) rfl ?_); refine gl_ 23 Tryz.func42 (impl_InodeAt.calls k _ _ l0_0 a0_1 t309 t311 t312 t313 t314 t317 t320 false _ (kC HR0_0) HC0_0.out A5.out) ?_; rintro e w28 ⟨v315, v318, v321, rfl, ho0, ho1, ho2, hb⟩; refine ⟨_, rfl, ?_⟩; have HO316 := Aside0.mk (Kd.R_lower ho0 (below_size oB)); have HO319 := Aside0.mk (Kd.R_lower ho1 (below_size oB)); have HO322 := Aside0.mk (Kd.R_lower ho2 (below_size oB)); replace BK307 := kb_ BK307 hb; replace BK308 := kb_ BK308 hb; replace HB := Aside0.mk (below_step oB hb); (try clear ho1); (try clear ho2)) | ((with_reducible refine gate_dst (N := 8) rfl ?_); refine bx_ 8 #[.int .i64 0, .int .i64 0, .int .i64 0, .slice none 0 0, .slice none 0 0, .slice none 0 0] 51 ?_; intro gb324 hg w29 hbox hb; have BK324 := Aside0.mk (hbox); have GW324 := gs_ hg; have NB307_324 := nl_ hg BK307; have NB324_307 := nr_ hg BK307; have NB308_324 := nl_ hg BK308; have NB324_308 := nr_ hg BK308; replace HO316 := kr_ HO316 hb; replace HO319 := kr_ HO319 hb; replace HO322 := kr_ HO322 hb; replace BK307 := kb_ BK307 hb; replace BK308 := kb_ BK308 hb; replace HB := Aside0.mk (below_step oB hb); clear hb hbox hg; have hnb30 := NB324_307.out; have hnc30 := NB307_324.out; have hnb31 := NB324_308.out; have hnc31 := NB308_324.out; obtain ⟨⟨_, _, _, _, _, _⟩, _, _, _, _, _, _⟩ := z6 BK324; obtain ⟨Ao33, co33, eo33⟩ := Kd.R_slice HO316.out; subst eo33; obtain ⟨Ao34, co34, eo34⟩ := Kd.R_slice HO319.out; subst eo34; obtain ⟨Ao35, co35, eo35⟩ := Kd.R_slice HO322.out; subst eo35; obtain ⟨⟨_, _, _, _, _, _⟩, _, _, _, _, _, _⟩ := z6 BK308))
   refine bodyPost_ret (results_ct rfl _ _ gb308 51 #[.int .i64 0, .int .i64 0, .int .i64 0, .slice none 0 0, .slice none 0 0, .slice none 0 0] (0, 0) _ rfl (oP BK308) Tryz.underlying51 rfl (by kernel_rfl)) rfl ?_
   exact ⟨_, _, _, oE, by first | exact Kd.R_nil _ _ _ _ _ | exact Kd.N_nil _ _ _ _ _ | exact Kd.V_nil _ _ _ _ _ | exact Kd.Q_nil _ _ _ _ _ | exact Kd.S_nil _ _ _ _ _, by first | exact Kd.R_nil _ _ _ _ _ | exact Kd.N_nil _ _ _ _ _ | exact Kd.V_nil _ _ _ _ _ | exact Kd.Q_nil _ _ _ _ _ | exact Kd.S_nil _ _ _ _ _, by first | exact Kd.R_nil _ _ _ _ _ | exact Kd.N_nil _ _ _ _ _ | exact Kd.V_nil _ _ _ _ _ | exact Kd.Q_nil _ _ _ _ _ | exact Kd.S_nil _ _ _ _ _, oB⟩
 ·rw [if_neg c4] at H
  have c4b0 : (t310 == 0) = false := beq_eq_false_iff_ne.mpr c4
  have c4b1 : (t310 != 0) = true := bne_iff_ne.mpr c4
  simp only [Option.some.injEq, Prod.mk.injEq] at H
  obtain ⟨rfl, rfl, rfl, rfl, rfl, rfl, rfl⟩ := H
  go_enter Tryz.func28, Tryz.ntmps28
  go_wp2_with (first | ((with_reducible refine gate_dst (N := 2) rfl ?_); refine bx_ 2 #[.slice A0_0 l0_0.length c0_0, .int .i64 a0_1] 26 ?_; intro gb307 hg w37 hbox hb; have BK307 := Aside0.mk (hbox); have GW307 := gs_ hg; replace HB := Aside0.mk (below_step oB hb); clear hb hbox hg) | ((with_reducible refine gate_dst (N := 4) rfl ?_); refine bx_ 4 #[.int .i64 0, .int .i64 0, .int .i64 0, .slice none 0 0, .slice none 0 0, .slice none 0 0] 51 ?_; intro gb308 hg w38 hbox hb; have BK308 := Aside0.mk (hbox); have GW308 := gs_ hg; have NB307_308 := nl_ hg BK307; have NB308_307 := nr_ hg BK307; replace BK307 := kb_ BK307 hb; replace HB := Aside0.mk (below_step oB hb); clear hb hbox hg; have hnb39 := NB307_308.out; have hnc39 := NB308_307.out; obtain ⟨⟨_, _⟩, _, _⟩ := z2 BK307) | ((with_reducible refine gate_callee (f := 31) rfl ?_); refine gl_ 13 Tryz.func31 (impl_Walk.calls k _ _ l0_0 a0_1 a1 t309 t310 _ (kC HR0_0) HC0_0.out A3.out) ?_; rintro e w41 ⟨rfl, hb⟩; refine ⟨_, rfl, ?_⟩; replace BK307 := kb_ BK307 hb; replace BK308 := kb_ BK308 hb; replace HB := Aside0.mk (below_step oB hb); obtain ⟨⟨_, _, _, _, _, _⟩, _, _, _, _, _, _⟩ := z6 BK308))
  refine bodyPost_ret (results_ct rfl _ _ gb308 51 #[.int .i64 0, .int .i64 0, .int .i64 0, .slice none 0 0, .slice none 0 0, .slice none 0 0] (0, 0) _ rfl (oP BK308) Tryz.underlying51 rfl (by kernel_rfl)) rfl ?_
  exact ⟨_, _, _, oE, by first | exact Kd.R_nil _ _ _ _ _ | exact Kd.N_nil _ _ _ _ _ | exact Kd.V_nil _ _ _ _ _ | exact Kd.Q_nil _ _ _ _ _ | exact Kd.S_nil _ _ _ _ _, by first | exact Kd.R_nil _ _ _ _ _ | exact Kd.N_nil _ _ _ _ _ | exact Kd.V_nil _ _ _ _ _ | exact Kd.Q_nil _ _ _ _ _ | exact Kd.S_nil _ _ _ _ _, by first | exact Kd.R_nil _ _ _ _ _ | exact Kd.N_nil _ _ _ _ _ | exact Kd.V_nil _ _ _ _ _ | exact Kd.Q_nil _ _ _ _ _ | exact Kd.S_nil _ _ _ _ _, oB⟩

/-! ### impl_GetAttr: function 26 -/
def impl_GetAttr.l0 : Nat → ByteArray → List (S71) → Int → Int → Option (ByteArray × Int)
 | 0, _, _, _, _ => none
 | k + 1, x2, x22, x23, x24 => if x24 < x23 then (if 0 ≤ x24 then (if x24 < (x22.length : Int) then (if ((rd_T71 x22 x24).f0).toList = x2.toList then (some ((rd_T71 x22 x24).f1, 0)) else (impl_GetAttr.l0 k x2 x22 x23 (wrap64 (x24 + 1)))) else (none)) else (none)) else (some ((⟨#[]⟩ : ByteArray), 2))
def impl_GetAttr.f (k : Nat) (l0_0 : List (S51)) (a0_1 : Int) (a1 : ByteArray) (a2 : ByteArray) : Option (ByteArray × Int) := (impl_Stat.f k l0_0 a0_1 a1).bind fun bt527 => (if bt527.2.2.2.2.2.2 = 0 then (impl_GetAttr.l0 k a2 bt527.2.2.2.2.2.1 (bt527.2.2.2.2.2.1.length : Int) 0) else (some ((⟨#[]⟩ : ByteArray), bt527.2.2.2.2.2.2)))
set_option maxHeartbeats 8000000 in
set_option maxRecDepth 100000 in
theorem impl_GetAttr.calls (k : Nat) (A0_0 : Option Addr) (c0_0 : Nat) (l0_0 : List (S51)) (a0_1 : Int) (a1 : ByteArray) (a2 : ByteArray) (r1 : ByteArray) (r2 : Int) (w : World) (hr0_0 : Kd.C k51 w A0_0 l0_0.length l0_0) (hc0_0 : l0_0.length ≤ c0_0) (h : impl_GetAttr.f k l0_0 a0_1 a1 a2 = some (r1, r2)) (hG : GOk w := by exact gk_ oB (by first | (with_reducible assumption) | assumption)) :
  Calls Tryz.prog 26 #[.agg #[.slice A0_0 l0_0.length c0_0, .int .i64 a0_1], .string a1, .string a2] w fun e w' => e = .returned (.tuple #[.string r1, .int .i64 r2]) ∧ Below w.heap.size w w' := by
 have HG := Aside0.mk hG
 clear hG
 have hu26 := Tryz.underlying26
 have hu51 := Tryz.underlying51
 have hu71 := Tryz.underlying71
 have HR0_0 := Aside0.mk hr0_0
 have HC0_0 := Aside0.mk hc0_0
 clear hr0_0 hc0_0
 have HB := Aside0.mk (Below.refl w.heap.size w)
 unfold impl_GetAttr.f at h
 have H := h
 clear h
 replace H := bA H
 obtain ⟨⟨t527, t528, t529, t530, t533, t536, t539⟩, A4, H⟩ := H
 try dsimp only at H
 by_cases c5 : t539 = 0
 ·rw [if_pos c5] at H
  have c5b0 : (t539 == 0) = true := beq_iff_eq.mpr c5
  have c5b1 : (t539 != 0) = false := bne_eq_false_iff_eq.mpr c5
  clear c5
  have H' := Aside0.mk H
  clear H
  go_enter Tryz.func26, Tryz.ntmps26
  go_wp2_with (first | ((with_reducible refine gate_dst (N := 3) rfl ?_); refine bx_ 3 #[.slice A0_0 l0_0.length c0_0, .int .i64 a0_1] 26 ?_; intro gb526 hg w6 hbox hb; have BK526 := Aside0.mk (hbox); have GW526 := gs_ hg; replace HB := Aside0.mk (below_step oB hb); clear hb hbox hg; obtain ⟨⟨_, _⟩, _, _⟩ := z2 BK526) | ((with_reducible refine gate_callee (f := 28) rfl ?_); refine gl_ 15 Tryz.func28 (impl_Stat.calls k _ _ l0_0 a0_1 a1 t527 t528 t529 t530 t533 t536 t539 _ (kC HR0_0) HC0_0.out A4.out) ?_; rintro e w8 ⟨v531, v534, v537, rfl, ho0, ho1, ho2, hb⟩; refine ⟨_, rfl, ?_⟩; have HO532 := Aside0.mk (Kd.R_lower ho0 (below_size oB)); have HO535 := Aside0.mk (Kd.R_lower ho1 (below_size oB)); have HO538 := Aside0.mk (Kd.R_lower ho2 (below_size oB)); replace BK526 := kb_ BK526 hb; replace HB := Aside0.mk (below_step oB hb); (try clear ho1); (try clear ho2)) | ((with_reducible refine gate_dst (N := 8) rfl ?_); refine bx_ 8 #[.int .i64 0, .int .i64 0, .int .i64 0, .slice none 0 0, .slice none 0 0, .slice none 0 0] 51 ?_; intro gb540 hg w9 hbox hb; have BK540 := Aside0.mk (hbox); have GW540 := gs_ hg; have NB526_540 := nl_ hg BK526; have NB540_526 := nr_ hg BK526; replace HO532 := kr_ HO532 hb; replace HO535 := kr_ HO535 hb; replace HO538 := kr_ HO538 hb; replace BK526 := kb_ BK526 hb; replace HB := Aside0.mk (below_step oB hb); clear hb hbox hg; have hnb10 := NB540_526.out; have hnc10 := NB526_540.out; obtain ⟨⟨_, _, _, _, _, _⟩, _, _, _, _, _, _⟩ := z6 BK540; obtain ⟨Ao12, co12, eo12⟩ := Kd.R_slice HO532.out; subst eo12; obtain ⟨Ao13, co13, eo13⟩ := Kd.R_slice HO535.out; subst eo13; obtain ⟨Ao14, co14, eo14⟩ := Kd.R_slice HO538.out; subst eo14))
  go_loopg [24] k (fun kq v24 w' => ∃ (x24_1 : Int), v24 = .int .i64 x24_1 ∧ Aside0 (impl_GetAttr.l0 kq a2 t536 (t536.length : Int) x24_1 = some (r1, r2)) ∧ Aside0 (kq ≤ k) ∧ Aside0 (Kd.R k71 71 w' w.heap.size (fun _ => True) (.slice Ao14 t536.length co14) t536) ∧ Aside0 (Kd.R (Kd.int .u8) 5 w' w.heap.size (fun _ => True) (.slice Ao12 t530.length co12) t530) ∧ Aside0 (Kd.R k65 65 w' w.heap.size (fun _ => True) (.slice Ao13 t533.length co13) t533) ∧ Aside0 (Kd.R k71 71 w' w.heap.size (fun _ => True) (.slice Ao14 t536.length co14) t536) ∧ Aside0 (w'.heap[gb526]? = some (.cells #[(.slice A0_0 l0_0.length c0_0), .int .i64 a0_1] 26 (0, 0))) ∧ Aside0 (w'.heap[gb540]? = some (.cells #[.int .i64 t527, .int .i64 t528, .int .i64 t529, (.slice Ao12 t530.length co12), (.slice Ao13 t533.length co13), (.slice Ao14 t536.length co14)] 51 (0, 0))) ∧ Aside0 (Below w.heap.size w w'))
  case atStart => exact ⟨(0), oS, H', ⟨Nat.le_refl _⟩, ⟨by (with_reducible repeat (first | apply Kd.R_alloc | apply Kd.R_drewN | apply Kd.R_drew)); exact Kd.R_mono (Kd.R_far (p := ⟨gb540, 5, none⟩) (Kd.R_far (p := ⟨gb540, 4, none⟩) (Kd.R_far (p := ⟨gb540, 3, none⟩) (Kd.R_far (p := ⟨gb540, 2, none⟩) (Kd.R_far (p := ⟨gb540, 1, none⟩) (Kd.R_far (p := ⟨gb540, 0, none⟩) (Kd.R_types HO538.out BK540.out (by decide)) (fun _ hk => hk.2) (.int .i64 t527)) (fun _ hk => hk.2) (.int .i64 t528)) (fun _ hk => hk.2) (.int .i64 t529)) (fun _ hk => hk.2) (.slice Ao12 t530.length co12)) (fun _ hk => hk.2) (.slice Ao13 t533.length co13)) (fun _ hk => hk.2) (.slice Ao14 t536.length co14)) (fun _ hk => trivial)⟩, ⟨by (with_reducible repeat (first | apply Kd.R_alloc | apply Kd.R_drewN | apply Kd.R_drew)); exact Kd.R_mono (Kd.R_far (p := ⟨gb540, 5, none⟩) (Kd.R_far (p := ⟨gb540, 4, none⟩) (Kd.R_far (p := ⟨gb540, 3, none⟩) (Kd.R_far (p := ⟨gb540, 2, none⟩) (Kd.R_far (p := ⟨gb540, 1, none⟩) (Kd.R_far (p := ⟨gb540, 0, none⟩) (Kd.R_types HO532.out BK540.out (by decide)) (fun _ hk => hk.2) (.int .i64 t527)) (fun _ hk => hk.2) (.int .i64 t528)) (fun _ hk => hk.2) (.int .i64 t529)) (fun _ hk => hk.2) (.slice Ao12 t530.length co12)) (fun _ hk => hk.2) (.slice Ao13 t533.length co13)) (fun _ hk => hk.2) (.slice Ao14 t536.length co14)) (fun _ hk => trivial)⟩, ⟨by (with_reducible repeat (first | apply Kd.R_alloc | apply Kd.R_drewN | apply Kd.R_drew)); exact Kd.R_mono (Kd.R_far (p := ⟨gb540, 5, none⟩) (Kd.R_far (p := ⟨gb540, 4, none⟩) (Kd.R_far (p := ⟨gb540, 3, none⟩) (Kd.R_far (p := ⟨gb540, 2, none⟩) (Kd.R_far (p := ⟨gb540, 1, none⟩) (Kd.R_far (p := ⟨gb540, 0, none⟩) (Kd.R_types HO535.out BK540.out (by decide)) (fun _ hk => hk.2) (.int .i64 t527)) (fun _ hk => hk.2) (.int .i64 t528)) (fun _ hk => hk.2) (.int .i64 t529)) (fun _ hk => hk.2) (.slice Ao12 t530.length co12)) (fun _ hk => hk.2) (.slice Ao13 t533.length co13)) (fun _ hk => hk.2) (.slice Ao14 t536.length co14)) (fun _ hk => trivial)⟩, ⟨by (with_reducible repeat (first | apply Kd.R_alloc | apply Kd.R_drewN | apply Kd.R_drew)); exact Kd.R_mono (Kd.R_far (p := ⟨gb540, 5, none⟩) (Kd.R_far (p := ⟨gb540, 4, none⟩) (Kd.R_far (p := ⟨gb540, 3, none⟩) (Kd.R_far (p := ⟨gb540, 2, none⟩) (Kd.R_far (p := ⟨gb540, 1, none⟩) (Kd.R_far (p := ⟨gb540, 0, none⟩) (Kd.R_types HO538.out BK540.out (by decide)) (fun _ hk => hk.2) (.int .i64 t527)) (fun _ hk => hk.2) (.int .i64 t528)) (fun _ hk => hk.2) (.int .i64 t529)) (fun _ hk => hk.2) (.slice Ao12 t530.length co12)) (fun _ hk => hk.2) (.slice Ao13 t533.length co13)) (fun _ hk => hk.2) (.slice Ao14 t536.length co14)) (fun _ hk => trivial)⟩, ⟨oF BK526⟩, ⟨oP BK540⟩, ⟨oB⟩⟩
  case round =>
   clear H'
   try clear c5
   obtain ⟨x24_1, rfl, HA, HK1, HO_22, HO_541003, HO_541004, HO_541005, BK526, BK540, HB⟩ := hrel
   cases gk with
   | zero => exact absurd HA.out (by simp [impl_GetAttr.l0])
   | succ k1 =>
    have H := HA.out
    clear HA
    simp only [impl_GetAttr.l0] at H
    replace H := itD H
    rcases H with ⟨c15b0, H⟩ | ⟨c15b0, H⟩
    ·replace H := itD H
     rcases H with ⟨c16b0, H⟩ | ⟨c16b0, H⟩
     ·replace H := itD H
      rcases H with ⟨c17b0, H⟩ | ⟨c17b0, H⟩
      ·by_cases c18 : ((rd_T71 t536 x24_1).f0).toList = a2.toList
       ·rw [if_pos c18] at H
        have c18b0 : (((rd_T71 t536 x24_1).f0).toList == a2.toList) = true := beq_iff_eq.mpr c18
        have c18b1 : (((rd_T71 t536 x24_1).f0).toList != a2.toList) = false := bne_eq_false_iff_eq.mpr c18
        clear c18
        simp only [Option.some.injEq, Prod.mk.injEq] at H
        obtain ⟨rfl, rfl⟩ := H
        have p541 : (0 ≤ (x24_1 : Int)) = True := oT
        have q541 : (x24_1 < (t536.length : Int)) = True := oT
        obtain ⟨ad541, e541, hx541_0, hx541_1⟩ := at_T71 (Kd.R_reads' HO_22.out).2.2 x24_1 oa oa
        cases e541
        go_wp2_with (first | ((with_reducible refine gate_dst (N := 11) rfl ?_); refine bx_ 11 #[.string (⟨#[]⟩ : ByteArray), .string (⟨#[]⟩ : ByteArray)] 71 ?_; intro gb542 hg w19 hbox hb; have BK542 := Aside0.mk (hbox); have GW542 := gs_ hg; have NB526_542 := nl_ hg BK526; have NB542_526 := nr_ hg BK526; have NB540_542 := nl_ hg BK540; have NB542_540 := nr_ hg BK540; replace HO_22 := Aside0.mk (Kd.R_below (Kd.R_elderB (oR HO_22) gb542 (Nat.le_of_eq hg.symm)) hb); replace HO_541003 := kr_ HO_541003 hb; replace HO_541004 := kr_ HO_541004 hb; replace HO_541005 := Aside0.mk (Kd.R_below (Kd.R_elderB (oR HO_541005) gb542 (Nat.le_of_eq hg.symm)) hb); replace BK526 := kb_ BK526 hb; replace BK540 := kb_ BK540 hb; replace HB := Aside0.mk (below_step oB hb); clear hb hbox hg; have hnb20 := NB542_526.out; have hnc20 := NB526_542.out; have hnb21 := NB542_540.out; have hnc21 := NB540_542.out; obtain ⟨⟨_, _⟩, _, _⟩ := z2 BK542))
        go_ret2
        exact ⟨oE, oB⟩
       ·rw [if_neg c18] at H
        have c18b0 : (((rd_T71 t536 x24_1).f0).toList == a2.toList) = false := beq_eq_false_iff_ne.mpr c18
        have c18b1 : (((rd_T71 t536 x24_1).f0).toList != a2.toList) = true := bne_iff_ne.mpr c18
        have H' := Aside0.mk H
        clear H
        have p541 : (0 ≤ (x24_1 : Int)) = True := oT
        have q541 : (x24_1 < (t536.length : Int)) = True := oT
        obtain ⟨ad541, e541, hx541_0, hx541_1⟩ := at_T71 (Kd.R_reads' HO_22.out).2.2 x24_1 oa oa
        cases e541
        go_wp2_with (first | ((with_reducible refine gate_dst (N := 11) rfl ?_); refine bx_ 11 #[.string (⟨#[]⟩ : ByteArray), .string (⟨#[]⟩ : ByteArray)] 71 ?_; intro gb542 hg w23 hbox hb; have BK542 := Aside0.mk (hbox); have GW542 := gs_ hg; have NB526_542 := nl_ hg BK526; have NB542_526 := nr_ hg BK526; have NB540_542 := nl_ hg BK540; have NB542_540 := nr_ hg BK540; replace HO_22 := Aside0.mk (Kd.R_below (Kd.R_elderB (oR HO_22) gb542 (Nat.le_of_eq hg.symm)) hb); replace HO_541003 := kr_ HO_541003 hb; replace HO_541004 := kr_ HO_541004 hb; replace HO_541005 := Aside0.mk (Kd.R_below (Kd.R_elderB (oR HO_541005) gb542 (Nat.le_of_eq hg.symm)) hb); replace BK526 := kb_ BK526 hb; replace BK540 := kb_ BK540 hb; replace HB := Aside0.mk (below_step oB hb); clear hb hbox hg; have hnb24 := NB542_526.out; have hnc24 := NB526_542.out; have hnb25 := NB542_540.out; have hnc25 := NB540_542.out; obtain ⟨⟨_, _⟩, _, _⟩ := z2 BK542))
        go_roundg k1
        case measure => have := HK1.out; omega
        case rel => exact ⟨(wrap64 (x24_1 + 1)), oS, H', ⟨by have := HK1.out; omega⟩, ⟨by (with_reducible repeat (first | apply Kd.R_alloc | apply Kd.R_drewN | apply Kd.R_drew)); exact Kd.R_mono (Kd.R_far (p := ⟨gb542, 1, none⟩) (Kd.R_far (p := ⟨gb542, 0, none⟩) (Kd.R_mono HO_22.out (fun k_ hk => (⟨hk, hk.2⟩ : _ ∧ k_ ≠ gb542))) (fun _ hk => hk.2) (.string ((rd_T71 t536 x24_1).f0))) (fun _ hk => hk.2) (.string ((rd_T71 t536 x24_1).f1))) (fun _ hk => trivial)⟩, ⟨by (with_reducible repeat (first | apply Kd.R_alloc | apply Kd.R_drewN | apply Kd.R_drew)); exact Kd.R_mono (Kd.R_far (p := ⟨gb542, 1, none⟩) (Kd.R_far (p := ⟨gb542, 0, none⟩) (Kd.R_types HO_541003.out BK542.out (by decide)) (fun _ hk => hk.2) (.string ((rd_T71 t536 x24_1).f0))) (fun _ hk => hk.2) (.string ((rd_T71 t536 x24_1).f1))) (fun _ hk => trivial)⟩, ⟨by (with_reducible repeat (first | apply Kd.R_alloc | apply Kd.R_drewN | apply Kd.R_drew)); exact Kd.R_mono (Kd.R_far (p := ⟨gb542, 1, none⟩) (Kd.R_far (p := ⟨gb542, 0, none⟩) (Kd.R_types HO_541004.out BK542.out (by decide)) (fun _ hk => hk.2) (.string ((rd_T71 t536 x24_1).f0))) (fun _ hk => hk.2) (.string ((rd_T71 t536 x24_1).f1))) (fun _ hk => trivial)⟩, ⟨by (with_reducible repeat (first | apply Kd.R_alloc | apply Kd.R_drewN | apply Kd.R_drew)); exact Kd.R_mono (Kd.R_far (p := ⟨gb542, 1, none⟩) (Kd.R_far (p := ⟨gb542, 0, none⟩) (Kd.R_mono HO_541005.out (fun k_ hk => (⟨hk, hk.2⟩ : _ ∧ k_ ≠ gb542))) (fun _ hk => hk.2) (.string ((rd_T71 t536 x24_1).f0))) (fun _ hk => hk.2) (.string ((rd_T71 t536 x24_1).f1))) (fun _ hk => trivial)⟩, ⟨oF BK526⟩, ⟨oF BK540⟩, ⟨oB⟩⟩
      ·cases H
     ·cases H
    ·simp only [Option.some.injEq, Prod.mk.injEq] at H
     obtain ⟨rfl, rfl⟩ := H
     go_wp2
     go_ret2
     exact ⟨oE, oB⟩
 ·rw [if_neg c5] at H
  have c5b0 : (t539 == 0) = false := beq_eq_false_iff_ne.mpr c5
  have c5b1 : (t539 != 0) = true := bne_iff_ne.mpr c5
  simp only [Option.some.injEq, Prod.mk.injEq] at H
  obtain ⟨rfl, rfl⟩ := H
  go_enter Tryz.func26, Tryz.ntmps26
  go_wp2_with (first | ((with_reducible refine gate_dst (N := 3) rfl ?_); refine bx_ 3 #[.slice A0_0 l0_0.length c0_0, .int .i64 a0_1] 26 ?_; intro gb526 hg w27 hbox hb; have BK526 := Aside0.mk (hbox); have GW526 := gs_ hg; replace HB := Aside0.mk (below_step oB hb); clear hb hbox hg; obtain ⟨⟨_, _⟩, _, _⟩ := z2 BK526) | ((with_reducible refine gate_callee (f := 28) rfl ?_); refine gl_ 15 Tryz.func28 (impl_Stat.calls k _ _ l0_0 a0_1 a1 t527 t528 t529 t530 t533 t536 t539 _ (kC HR0_0) HC0_0.out A4.out) ?_; rintro e w29 ⟨v531, v534, v537, rfl, ho0, ho1, ho2, hb⟩; refine ⟨_, rfl, ?_⟩; have HO532 := Aside0.mk (Kd.R_lower ho0 (below_size oB)); have HO535 := Aside0.mk (Kd.R_lower ho1 (below_size oB)); have HO538 := Aside0.mk (Kd.R_lower ho2 (below_size oB)); replace BK526 := kb_ BK526 hb; replace HB := Aside0.mk (below_step oB hb); (try clear ho1); (try clear ho2)) | ((with_reducible refine gate_dst (N := 8) rfl ?_); refine bx_ 8 #[.int .i64 0, .int .i64 0, .int .i64 0, .slice none 0 0, .slice none 0 0, .slice none 0 0] 51 ?_; intro gb540 hg w30 hbox hb; have BK540 := Aside0.mk (hbox); have GW540 := gs_ hg; have NB526_540 := nl_ hg BK526; have NB540_526 := nr_ hg BK526; replace HO532 := kr_ HO532 hb; replace HO535 := kr_ HO535 hb; replace HO538 := kr_ HO538 hb; replace BK526 := kb_ BK526 hb; replace HB := Aside0.mk (below_step oB hb); clear hb hbox hg; have hnb31 := NB540_526.out; have hnc31 := NB526_540.out; obtain ⟨⟨_, _, _, _, _, _⟩, _, _, _, _, _, _⟩ := z6 BK540; obtain ⟨Ao33, co33, eo33⟩ := Kd.R_slice HO532.out; subst eo33; obtain ⟨Ao34, co34, eo34⟩ := Kd.R_slice HO535.out; subst eo34; obtain ⟨Ao35, co35, eo35⟩ := Kd.R_slice HO538.out; subst eo35))
  go_ret2
  exact ⟨oE, oB⟩

/-! ### impl_ready: function 46 -/
def impl_ready.l0 : Nat → List ByteArray → Int → Int → List (S51) → Int → Option (Bool)
 | 0, _, _, _, _, _ => none
 | k + 1, x9, x10, x11, x273000, x273001 => if x11 < x10 then (if 0 ≤ x11 then (if x11 < (x9.length : Int) then ((impl_SplitPath.f k (rdOf ByteArray.empty x9 x11)).bind fun bt274 => (if bt274.2 = true then (impl_ready.l0 k x9 x10 (wrap64 (x11 + 1)) x273000 x273001) else (some false))) else (none)) else (none)) else ((impl_TreeOk.f k x273000 x273001).bind fun t278 => (some t278))
def impl_ready.f (k : Nat) (l0_0 : List (S51)) (a0_1 : Int) (l1 : List ByteArray) : Option (Bool) := impl_ready.l0 k l1 (l1.length : Int) 0 l0_0 a0_1
set_option maxHeartbeats 8000000 in
set_option maxRecDepth 100000 in
theorem impl_ready.calls (k : Nat) (A0_0 : Option Addr) (c0_0 : Nat) (l0_0 : List (S51)) (a0_1 : Int) (A1 : Option Addr) (c1 : Nat) (l1 : List ByteArray) (r : Bool) (w : World) (hr0_0 : Kd.C k51 w A0_0 l0_0.length l0_0) (hc0_0 : l0_0.length ≤ c0_0) (hr1 : Kd.C Kd.string w A1 l1.length l1) (hc1 : l1.length ≤ c1) (h : impl_ready.f k l0_0 a0_1 l1 = some r) (hG : GOk w := by exact gk_ oB (by first | (with_reducible assumption) | assumption)) :
  Calls Tryz.prog 46 #[.agg #[.slice A0_0 l0_0.length c0_0, .int .i64 a0_1], .slice A1 l1.length c1] w fun e w' => e = .returned (.bool r) ∧ Below w.heap.size w w' := by
 have HG := Aside0.mk hG
 clear hG
 have hu26 := Tryz.underlying26
 have HR0_0 := Aside0.mk hr0_0
 have HC0_0 := Aside0.mk hc0_0
 clear hr0_0 hc0_0
 have HR1 := Aside0.mk hr1
 have HC1 := Aside0.mk hc1
 clear hr1 hc1
 have HB := Aside0.mk (Below.refl w.heap.size w)
 unfold impl_ready.f at h
 have H := h
 clear h
 have H' := Aside0.mk H
 clear H
 go_enter Tryz.func46, Tryz.ntmps46
 go_wp2_with (first | ((with_reducible refine gate_dst (N := 2) rfl ?_); refine bx_ 2 #[.slice A0_0 l0_0.length c0_0, .int .i64 a0_1] 26 ?_; intro gb272 hg w3 hbox hb; have BK272 := Aside0.mk (hbox); have GW272 := gs_ hg; replace HB := Aside0.mk (below_step oB hb); clear hb hbox hg))
 go_loopg [11] k (fun kq v11 w' => ∃ (x11_1 : Int), v11 = .int .i64 x11_1 ∧ Aside0 (impl_ready.l0 kq l1 (l1.length : Int) x11_1 l0_0 a0_1 = some r) ∧ Aside0 (kq ≤ k) ∧ Aside0 (w'.heap[gb272]? = some (.cells #[(.slice A0_0 l0_0.length c0_0), .int .i64 a0_1] 26 (0, 0))) ∧ Aside0 (Below w.heap.size w w'))
 case atStart => exact ⟨(0), oS, H', ⟨Nat.le_refl _⟩, ⟨oF BK272⟩, ⟨oB⟩⟩
 case round =>
  clear H'
  try clear c1
  obtain ⟨x11_1, rfl, HA, HK1, BK272, HB⟩ := hrel
  cases gk with
  | zero => exact absurd HA.out (by simp [impl_ready.l0])
  | succ k1 =>
   have H := HA.out
   clear HA
   simp only [impl_ready.l0] at H
   replace H := itD H
   rcases H with ⟨c4b0, H⟩ | ⟨c4b0, H⟩
   ·replace H := itD H
    rcases H with ⟨c5b0, H⟩ | ⟨c5b0, H⟩
    ·replace H := itD H
     rcases H with ⟨c6b0, H⟩ | ⟨c6b0, H⟩
     ·replace H := bA H
      obtain ⟨⟨t274, t275⟩, A7, H⟩ := H
      try dsimp only at H
      replace H := itB H
      rcases H with ⟨rfl, H⟩ | ⟨rfl, H⟩
      ·have H' := Aside0.mk H
       clear H
       have p273 : (0 ≤ (x11_1 : Int)) = True := oT
       have q273 : (x11_1 < (l1.length : Int)) = True := oT
       obtain ⟨ad273, e273, hx273_0⟩ := Kd.at_string HR1.out x11_1 oa oa
       cases e273
       replace hx273_0 := cB HB hx273_0
       go_wp2_with (first | ((with_reducible refine gate_callee (f := 16) rfl ?_); refine gl_ 17 Tryz.func16 (impl_SplitPath.calls k1 (rdOf ByteArray.empty l1 x11_1) t274 true _ A7.out) ?_; rintro e w9 ⟨v276, rfl, ho0, hb⟩; refine ⟨_, rfl, ?_⟩; have HO277 := Aside0.mk (Kd.Q_lower ho0 (below_size oB)); replace BK272 := kb_ BK272 hb; replace HB := Aside0.mk (below_step oB hb)))
       go_roundg k1
       case measure => have := HK1.out; omega
       case rel => exact ⟨(wrap64 (x11_1 + 1)), oS, H', ⟨by have := HK1.out; omega⟩, ⟨oF BK272⟩, ⟨oB⟩⟩
      ·obtain rfl := Option.some.inj H
       have p273 : (0 ≤ (x11_1 : Int)) = True := oT
       have q273 : (x11_1 < (l1.length : Int)) = True := oT
       obtain ⟨ad273, e273, hx273_0⟩ := Kd.at_string HR1.out x11_1 oa oa
       cases e273
       replace hx273_0 := cB HB hx273_0
       go_wp2_with (first | ((with_reducible refine gate_callee (f := 16) rfl ?_); refine gl_ 17 Tryz.func16 (impl_SplitPath.calls k1 (rdOf ByteArray.empty l1 x11_1) t274 false _ A7.out) ?_; rintro e w10 ⟨v276, rfl, ho0, hb⟩; refine ⟨_, rfl, ?_⟩; have HO277 := Aside0.mk (Kd.Q_lower ho0 (below_size oB)); replace BK272 := kb_ BK272 hb; replace HB := Aside0.mk (below_step oB hb)))
       go_ret
       exact ⟨oE, oB⟩
     ·cases H
    ·cases H
   ·replace H := bA H
    obtain ⟨t278, A11, H⟩ := H
    try dsimp only at H
    obtain rfl := Option.some.inj H
    obtain ⟨⟨_, _⟩, _, _⟩ := z2 BK272
    go_wp2_with (first | ((with_reducible refine gate_callee (f := 17) rfl ?_); refine gl_ 24 Tryz.func17 (impl_TreeOk.calls k1 _ _ l0_0 a0_1 t278 _ (kC HR0_0) HC0_0.out A11.out) ?_; rintro e w13 ⟨rfl, hb⟩; refine ⟨_, rfl, ?_⟩; replace BK272 := kb_ BK272 hb; replace HB := Aside0.mk (below_step oB hb)))
    go_ret
    exact ⟨oE, oB⟩

/-! ### impl_spotOf: function 57 -/
def impl_spotOf.f (k : Nat) (l0_0 : List (S51)) (a0_1 : Int) (a1 : ByteArray) : Option (Int × Int × Int × List Int × (List (S65)) × (List (S71)) × ByteArray × Int) := (impl_ParentOf.f k a1).bind fun bt338 => ((impl_Stat.f k l0_0 a0_1 bt338.1).bind fun bt341 => (if bt341.2.2.2.2.2.2 = 0 then (if bt341.2.1 = 2 then (some (bt341.1, bt341.2.1, bt341.2.2.1, bt341.2.2.2.1, bt341.2.2.2.2.1, bt341.2.2.2.2.2.1, bt338.2.1, 0)) else (some (0, 0, 0, ([] : List Int), ([] : List (S65)), ([] : List (S71)), (⟨#[]⟩ : ByteArray), 3))) else (some (0, 0, 0, ([] : List Int), ([] : List (S65)), ([] : List (S71)), (⟨#[]⟩ : ByteArray), bt341.2.2.2.2.2.2))))
set_option maxHeartbeats 8000000 in
set_option maxRecDepth 100000 in
theorem impl_spotOf.calls (k : Nat) (A0_0 : Option Addr) (c0_0 : Nat) (l0_0 : List (S51)) (a0_1 : Int) (a1 : ByteArray) (r1 : Int) (r2 : Int) (r3 : Int) (r4 : List Int) (r5 : List (S65)) (r6 : List (S71)) (r7 : ByteArray) (r8 : Int) (w : World) (hr0_0 : Kd.C k51 w A0_0 l0_0.length l0_0) (hc0_0 : l0_0.length ≤ c0_0) (h : impl_spotOf.f k l0_0 a0_1 a1 = some (r1, r2, r3, r4, r5, r6, r7, r8)) (hG : GOk w := by exact gk_ oB (by first | (with_reducible assumption) | assumption)) :
  Calls Tryz.prog 57 #[.agg #[.slice A0_0 l0_0.length c0_0, .int .i64 a0_1], .string a1] w fun e w' => ∃ v3_ v4_ v5_ : Value, e = .returned (.tuple #[.agg #[.int .i64 r1, .int .i64 r2, .int .i64 r3, v3_, v4_, v5_, .string r7], .int .i64 r8]) ∧ Kd.R (Kd.int .u8) 5 w' w.heap.size (fun _ => True) v3_ r4 ∧ Kd.R k65 65 w' w.heap.size (fun _ => True) v4_ r5 ∧ Kd.R k71 71 w' w.heap.size (fun _ => True) v5_ r6 ∧ Below w.heap.size w w' := by
 have HG := Aside0.mk hG
 clear hG
 have hu26 := Tryz.underlying26
 have hu84 := Tryz.underlying84
 have hu51 := Tryz.underlying51
 have HR0_0 := Aside0.mk hr0_0
 have HC0_0 := Aside0.mk hc0_0
 clear hr0_0 hc0_0
 have HB := Aside0.mk (Below.refl w.heap.size w)
 unfold impl_spotOf.f at h
 have H := h
 clear h
 replace H := bA H
 obtain ⟨⟨t338, t339, t340⟩, A3, H⟩ := H
 try dsimp only at H
 replace H := bA H
 obtain ⟨⟨t341, t342, t343, t344, t347, t350, t353⟩, A4, H⟩ := H
 try dsimp only at H
 by_cases c5 : t353 = 0
 ·rw [if_pos c5] at H
  have c5b0 : (t353 == 0) = true := beq_iff_eq.mpr c5
  have c5b1 : (t353 != 0) = false := bne_eq_false_iff_eq.mpr c5
  clear c5
  by_cases c6 : t342 = 2
  ·rw [if_pos c6] at H
   have c6b0 : (t342 == 2) = true := beq_iff_eq.mpr c6
   have c6b1 : (t342 != 2) = false := bne_eq_false_iff_eq.mpr c6
   clear c6
   simp only [Option.some.injEq, Prod.mk.injEq] at H
   obtain ⟨rfl, rfl, rfl, rfl, rfl, rfl, rfl, rfl⟩ := H
   go_enter Tryz.func57, Tryz.ntmps57
   go_wp2_with (first | ((with_reducible refine gate_dst (N := 2) rfl ?_); refine bx_ 2 #[.slice A0_0 l0_0.length c0_0, .int .i64 a0_1] 26 ?_; intro gb336 hg w7 hbox hb; have BK336 := Aside0.mk (hbox); have GW336 := gs_ hg; replace HB := Aside0.mk (below_step oB hb); clear hb hbox hg) | ((with_reducible refine gate_dst (N := 4) rfl ?_); refine bx_ 4 #[.int .i64 0, .int .i64 0, .int .i64 0, .slice none 0 0, .slice none 0 0, .slice none 0 0, .string (⟨#[]⟩ : ByteArray)] 84 ?_; intro gb337 hg w8 hbox hb; have BK337 := Aside0.mk (hbox); have GW337 := gs_ hg; have NB336_337 := nl_ hg BK336; have NB337_336 := nr_ hg BK336; replace BK336 := kb_ BK336 hb; replace HB := Aside0.mk (below_step oB hb); clear hb hbox hg) | ((with_reducible refine gate_callee (f := 78) rfl ?_); refine gl_ 13 Tryz.func78 (impl_ParentOf.calls k a1 t338 t339 t340 _ A3.out) ?_; rintro e w9 ⟨rfl, hb⟩; refine ⟨_, rfl, ?_⟩; replace BK336 := kb_ BK336 hb; replace BK337 := kb_ BK337 hb; replace HB := Aside0.mk (below_step oB hb); have hnb10 := NB336_337.out; have hnc10 := NB337_336.out; obtain ⟨⟨_, _⟩, _, _⟩ := z2 BK336) | ((with_reducible refine gate_callee (f := 28) rfl ?_); refine gl_ 20 Tryz.func28 (impl_Stat.calls k _ _ l0_0 a0_1 t338 t341 t342 t343 t344 t347 t350 t353 _ (kC HR0_0) HC0_0.out A4.out) ?_; rintro e w12 ⟨v345, v348, v351, rfl, ho0, ho1, ho2, hb⟩; refine ⟨_, rfl, ?_⟩; have HO346 := Aside0.mk (Kd.R_lower ho0 (below_size oB)); have HO349 := Aside0.mk (Kd.R_lower ho1 (below_size oB)); have HO352 := Aside0.mk (Kd.R_lower ho2 (below_size oB)); replace BK336 := kb_ BK336 hb; replace BK337 := kb_ BK337 hb; replace HB := Aside0.mk (below_step oB hb); (try clear ho1); (try clear ho2)) | ((with_reducible refine gate_dst (N := 9) rfl ?_); refine bx_ 9 #[.int .i64 0, .int .i64 0, .int .i64 0, .slice none 0 0, .slice none 0 0, .slice none 0 0] 51 ?_; intro gb354 hg w13 hbox hb; have BK354 := Aside0.mk (hbox); have GW354 := gs_ hg; have NB336_354 := nl_ hg BK336; have NB354_336 := nr_ hg BK336; have NB337_354 := nl_ hg BK337; have NB354_337 := nr_ hg BK337; replace HO346 := kr_ HO346 hb; replace HO349 := kr_ HO349 hb; replace HO352 := kr_ HO352 hb; replace BK336 := kb_ BK336 hb; replace BK337 := kb_ BK337 hb; replace HB := Aside0.mk (below_step oB hb); clear hb hbox hg; have hnb14 := NB354_336.out; have hnc14 := NB336_354.out; have hnb15 := NB354_337.out; have hnc15 := NB337_354.out; obtain ⟨⟨_, _, _, _, _, _⟩, _, _, _, _, _, _⟩ := z6 BK354; obtain ⟨Ao17, co17, eo17⟩ := Kd.R_slice HO346.out; subst eo17; obtain ⟨Ao18, co18, eo18⟩ := Kd.R_slice HO349.out; subst eo18; obtain ⟨Ao19, co19, eo19⟩ := Kd.R_slice HO352.out; subst eo19; obtain ⟨⟨_, _, _, _, _, _, _⟩, _, _, _, _, _, _, _⟩ := z7 BK337))
   refine bodyPost_ret (results_ct rfl _ _ gb337 84 #[.int .i64 t341, .int .i64 t342, .int .i64 t343, .slice Ao17 t344.length co17, .slice Ao18 t347.length co18, .slice Ao19 t350.length co19, .string t339] (0, 0) _ rfl (oP BK337) Tryz.underlying84 rfl (by kernel_rfl)) rfl ?_
   exact ⟨_, _, _, oE, by (with_reducible repeat (first | apply Kd.R_alloc | apply Kd.R_drewN | apply Kd.R_drew)); exact Kd.R_mono (Kd.R_far (p := ⟨gb337, 6, none⟩) (Kd.R_far (p := ⟨gb337, 5, none⟩) (Kd.R_far (p := ⟨gb337, 4, none⟩) (Kd.R_far (p := ⟨gb337, 3, none⟩) (Kd.R_far (p := ⟨gb337, 2, none⟩) (Kd.R_far (p := ⟨gb337, 1, none⟩) (Kd.R_far (p := ⟨gb337, 0, none⟩) (Kd.R_far (p := ⟨gb354, 5, none⟩) (Kd.R_far (p := ⟨gb354, 4, none⟩) (Kd.R_far (p := ⟨gb354, 3, none⟩) (Kd.R_far (p := ⟨gb354, 2, none⟩) (Kd.R_far (p := ⟨gb354, 1, none⟩) (Kd.R_far (p := ⟨gb354, 0, none⟩) (Kd.R_types (Kd.R_types HO346.out BK354.out (by decide)) BK337.out (by decide)) (fun _ hk => hk.1.2) (.int .i64 t341)) (fun _ hk => hk.1.2) (.int .i64 t342)) (fun _ hk => hk.1.2) (.int .i64 t343)) (fun _ hk => hk.1.2) (.slice Ao17 t344.length co17)) (fun _ hk => hk.1.2) (.slice Ao18 t347.length co18)) (fun _ hk => hk.1.2) (.slice Ao19 t350.length co19)) (fun _ hk => hk.2) (.int .i64 t341)) (fun _ hk => hk.2) (.int .i64 t342)) (fun _ hk => hk.2) (.int .i64 t343)) (fun _ hk => hk.2) (.slice Ao17 t344.length co17)) (fun _ hk => hk.2) (.slice Ao18 t347.length co18)) (fun _ hk => hk.2) (.slice Ao19 t350.length co19)) (fun _ hk => hk.2) (.string t339)) (fun _ hk => trivial), by (with_reducible repeat (first | apply Kd.R_alloc | apply Kd.R_drewN | apply Kd.R_drew)); exact Kd.R_mono (Kd.R_far (p := ⟨gb337, 6, none⟩) (Kd.R_far (p := ⟨gb337, 5, none⟩) (Kd.R_far (p := ⟨gb337, 4, none⟩) (Kd.R_far (p := ⟨gb337, 3, none⟩) (Kd.R_far (p := ⟨gb337, 2, none⟩) (Kd.R_far (p := ⟨gb337, 1, none⟩) (Kd.R_far (p := ⟨gb337, 0, none⟩) (Kd.R_far (p := ⟨gb354, 5, none⟩) (Kd.R_far (p := ⟨gb354, 4, none⟩) (Kd.R_far (p := ⟨gb354, 3, none⟩) (Kd.R_far (p := ⟨gb354, 2, none⟩) (Kd.R_far (p := ⟨gb354, 1, none⟩) (Kd.R_far (p := ⟨gb354, 0, none⟩) (Kd.R_types (Kd.R_types HO349.out BK354.out (by decide)) BK337.out (by decide)) (fun _ hk => hk.1.2) (.int .i64 t341)) (fun _ hk => hk.1.2) (.int .i64 t342)) (fun _ hk => hk.1.2) (.int .i64 t343)) (fun _ hk => hk.1.2) (.slice Ao17 t344.length co17)) (fun _ hk => hk.1.2) (.slice Ao18 t347.length co18)) (fun _ hk => hk.1.2) (.slice Ao19 t350.length co19)) (fun _ hk => hk.2) (.int .i64 t341)) (fun _ hk => hk.2) (.int .i64 t342)) (fun _ hk => hk.2) (.int .i64 t343)) (fun _ hk => hk.2) (.slice Ao17 t344.length co17)) (fun _ hk => hk.2) (.slice Ao18 t347.length co18)) (fun _ hk => hk.2) (.slice Ao19 t350.length co19)) (fun _ hk => hk.2) (.string t339)) (fun _ hk => trivial), by (with_reducible repeat (first | apply Kd.R_alloc | apply Kd.R_drewN | apply Kd.R_drew)); exact Kd.R_mono (Kd.R_far (p := ⟨gb337, 6, none⟩) (Kd.R_far (p := ⟨gb337, 5, none⟩) (Kd.R_far (p := ⟨gb337, 4, none⟩) (Kd.R_far (p := ⟨gb337, 3, none⟩) (Kd.R_far (p := ⟨gb337, 2, none⟩) (Kd.R_far (p := ⟨gb337, 1, none⟩) (Kd.R_far (p := ⟨gb337, 0, none⟩) (Kd.R_far (p := ⟨gb354, 5, none⟩) (Kd.R_far (p := ⟨gb354, 4, none⟩) (Kd.R_far (p := ⟨gb354, 3, none⟩) (Kd.R_far (p := ⟨gb354, 2, none⟩) (Kd.R_far (p := ⟨gb354, 1, none⟩) (Kd.R_far (p := ⟨gb354, 0, none⟩) (Kd.R_types (Kd.R_types HO352.out BK354.out (by decide)) BK337.out (by decide)) (fun _ hk => hk.1.2) (.int .i64 t341)) (fun _ hk => hk.1.2) (.int .i64 t342)) (fun _ hk => hk.1.2) (.int .i64 t343)) (fun _ hk => hk.1.2) (.slice Ao17 t344.length co17)) (fun _ hk => hk.1.2) (.slice Ao18 t347.length co18)) (fun _ hk => hk.1.2) (.slice Ao19 t350.length co19)) (fun _ hk => hk.2) (.int .i64 t341)) (fun _ hk => hk.2) (.int .i64 t342)) (fun _ hk => hk.2) (.int .i64 t343)) (fun _ hk => hk.2) (.slice Ao17 t344.length co17)) (fun _ hk => hk.2) (.slice Ao18 t347.length co18)) (fun _ hk => hk.2) (.slice Ao19 t350.length co19)) (fun _ hk => hk.2) (.string t339)) (fun _ hk => trivial), oB⟩
  ·rw [if_neg c6] at H
   have c6b0 : (t342 == 2) = false := beq_eq_false_iff_ne.mpr c6
   have c6b1 : (t342 != 2) = true := bne_iff_ne.mpr c6
   simp only [Option.some.injEq, Prod.mk.injEq] at H
   obtain ⟨rfl, rfl, rfl, rfl, rfl, rfl, rfl, rfl⟩ := H
   go_enter Tryz.func57, Tryz.ntmps57
   go_wp2_with (first | ((with_reducible refine gate_dst (N := 2) rfl ?_); refine bx_ 2 #[.slice A0_0 l0_0.length c0_0, .int .i64 a0_1] 26 ?_; intro gb336 hg w21 hbox hb; have BK336 := Aside0.mk (hbox); have GW336 := gs_ hg; replace HB := Aside0.mk (below_step oB hb); clear hb hbox hg) | ((with_reducible refine gate_dst (N := 4) rfl ?_); refine bx_ 4 #[.int .i64 0, .int .i64 0, .int .i64 0, .slice none 0 0, .slice none 0 0, .slice none 0 0, .string (⟨#[]⟩ : ByteArray)] 84 ?_; intro gb337 hg w22 hbox hb; have BK337 := Aside0.mk (hbox); have GW337 := gs_ hg; have NB336_337 := nl_ hg BK336; have NB337_336 := nr_ hg BK336; replace BK336 := kb_ BK336 hb; replace HB := Aside0.mk (below_step oB hb); clear hb hbox hg) | ((with_reducible refine gate_callee (f := 78) rfl ?_); refine gl_ 13 Tryz.func78 (impl_ParentOf.calls k a1 t338 t339 t340 _ A3.out) ?_; rintro e w23 ⟨rfl, hb⟩; refine ⟨_, rfl, ?_⟩; replace BK336 := kb_ BK336 hb; replace BK337 := kb_ BK337 hb; replace HB := Aside0.mk (below_step oB hb); have hnb24 := NB336_337.out; have hnc24 := NB337_336.out; obtain ⟨⟨_, _⟩, _, _⟩ := z2 BK336) | ((with_reducible refine gate_callee (f := 28) rfl ?_); refine gl_ 20 Tryz.func28 (impl_Stat.calls k _ _ l0_0 a0_1 t338 t341 t342 t343 t344 t347 t350 t353 _ (kC HR0_0) HC0_0.out A4.out) ?_; rintro e w26 ⟨v345, v348, v351, rfl, ho0, ho1, ho2, hb⟩; refine ⟨_, rfl, ?_⟩; have HO346 := Aside0.mk (Kd.R_lower ho0 (below_size oB)); have HO349 := Aside0.mk (Kd.R_lower ho1 (below_size oB)); have HO352 := Aside0.mk (Kd.R_lower ho2 (below_size oB)); replace BK336 := kb_ BK336 hb; replace BK337 := kb_ BK337 hb; replace HB := Aside0.mk (below_step oB hb); (try clear ho1); (try clear ho2)) | ((with_reducible refine gate_dst (N := 9) rfl ?_); refine bx_ 9 #[.int .i64 0, .int .i64 0, .int .i64 0, .slice none 0 0, .slice none 0 0, .slice none 0 0] 51 ?_; intro gb354 hg w27 hbox hb; have BK354 := Aside0.mk (hbox); have GW354 := gs_ hg; have NB336_354 := nl_ hg BK336; have NB354_336 := nr_ hg BK336; have NB337_354 := nl_ hg BK337; have NB354_337 := nr_ hg BK337; replace HO346 := kr_ HO346 hb; replace HO349 := kr_ HO349 hb; replace HO352 := kr_ HO352 hb; replace BK336 := kb_ BK336 hb; replace BK337 := kb_ BK337 hb; replace HB := Aside0.mk (below_step oB hb); clear hb hbox hg; have hnb28 := NB354_336.out; have hnc28 := NB336_354.out; have hnb29 := NB354_337.out; have hnc29 := NB337_354.out; obtain ⟨⟨_, _, _, _, _, _⟩, _, _, _, _, _, _⟩ := z6 BK354; obtain ⟨Ao31, co31, eo31⟩ := Kd.R_slice HO346.out; subst eo31; obtain ⟨Ao32, co32, eo32⟩ := Kd.R_slice HO349.out; subst eo32; obtain ⟨Ao33, co33, eo33⟩ := Kd.R_slice HO352.out; subst eo33; obtain ⟨⟨_, _, _, _, _, _, _⟩, _, _, _, _, _, _, _⟩ := z7 BK337))
   refine bodyPost_ret (results_ct rfl _ _ gb337 84 #[.int .i64 0, .int .i64 0, .int .i64 0, .slice none 0 0, .slice none 0 0, .slice none 0 0, .string (⟨#[]⟩ : ByteArray)] (0, 0) _ rfl (oP BK337) Tryz.underlying84 rfl (by kernel_rfl)) rfl ?_
   exact ⟨_, _, _, oE, by first | exact Kd.R_nil _ _ _ _ _ | exact Kd.N_nil _ _ _ _ _ | exact Kd.V_nil _ _ _ _ _ | exact Kd.Q_nil _ _ _ _ _ | exact Kd.S_nil _ _ _ _ _, by first | exact Kd.R_nil _ _ _ _ _ | exact Kd.N_nil _ _ _ _ _ | exact Kd.V_nil _ _ _ _ _ | exact Kd.Q_nil _ _ _ _ _ | exact Kd.S_nil _ _ _ _ _, by first | exact Kd.R_nil _ _ _ _ _ | exact Kd.N_nil _ _ _ _ _ | exact Kd.V_nil _ _ _ _ _ | exact Kd.Q_nil _ _ _ _ _ | exact Kd.S_nil _ _ _ _ _, oB⟩
 ·rw [if_neg c5] at H
  have c5b0 : (t353 == 0) = false := beq_eq_false_iff_ne.mpr c5
  have c5b1 : (t353 != 0) = true := bne_iff_ne.mpr c5
  simp only [Option.some.injEq, Prod.mk.injEq] at H
  obtain ⟨rfl, rfl, rfl, rfl, rfl, rfl, rfl, rfl⟩ := H
  go_enter Tryz.func57, Tryz.ntmps57
  go_wp2_with (first | ((with_reducible refine gate_dst (N := 2) rfl ?_); refine bx_ 2 #[.slice A0_0 l0_0.length c0_0, .int .i64 a0_1] 26 ?_; intro gb336 hg w35 hbox hb; have BK336 := Aside0.mk (hbox); have GW336 := gs_ hg; replace HB := Aside0.mk (below_step oB hb); clear hb hbox hg) | ((with_reducible refine gate_dst (N := 4) rfl ?_); refine bx_ 4 #[.int .i64 0, .int .i64 0, .int .i64 0, .slice none 0 0, .slice none 0 0, .slice none 0 0, .string (⟨#[]⟩ : ByteArray)] 84 ?_; intro gb337 hg w36 hbox hb; have BK337 := Aside0.mk (hbox); have GW337 := gs_ hg; have NB336_337 := nl_ hg BK336; have NB337_336 := nr_ hg BK336; replace BK336 := kb_ BK336 hb; replace HB := Aside0.mk (below_step oB hb); clear hb hbox hg) | ((with_reducible refine gate_callee (f := 78) rfl ?_); refine gl_ 13 Tryz.func78 (impl_ParentOf.calls k a1 t338 t339 t340 _ A3.out) ?_; rintro e w37 ⟨rfl, hb⟩; refine ⟨_, rfl, ?_⟩; replace BK336 := kb_ BK336 hb; replace BK337 := kb_ BK337 hb; replace HB := Aside0.mk (below_step oB hb); have hnb38 := NB336_337.out; have hnc38 := NB337_336.out; obtain ⟨⟨_, _⟩, _, _⟩ := z2 BK336) | ((with_reducible refine gate_callee (f := 28) rfl ?_); refine gl_ 20 Tryz.func28 (impl_Stat.calls k _ _ l0_0 a0_1 t338 t341 t342 t343 t344 t347 t350 t353 _ (kC HR0_0) HC0_0.out A4.out) ?_; rintro e w40 ⟨v345, v348, v351, rfl, ho0, ho1, ho2, hb⟩; refine ⟨_, rfl, ?_⟩; have HO346 := Aside0.mk (Kd.R_lower ho0 (below_size oB)); have HO349 := Aside0.mk (Kd.R_lower ho1 (below_size oB)); have HO352 := Aside0.mk (Kd.R_lower ho2 (below_size oB)); replace BK336 := kb_ BK336 hb; replace BK337 := kb_ BK337 hb; replace HB := Aside0.mk (below_step oB hb); (try clear ho1); (try clear ho2)) | ((with_reducible refine gate_dst (N := 9) rfl ?_); refine bx_ 9 #[.int .i64 0, .int .i64 0, .int .i64 0, .slice none 0 0, .slice none 0 0, .slice none 0 0] 51 ?_; intro gb354 hg w41 hbox hb; have BK354 := Aside0.mk (hbox); have GW354 := gs_ hg; have NB336_354 := nl_ hg BK336; have NB354_336 := nr_ hg BK336; have NB337_354 := nl_ hg BK337; have NB354_337 := nr_ hg BK337; replace HO346 := kr_ HO346 hb; replace HO349 := kr_ HO349 hb; replace HO352 := kr_ HO352 hb; replace BK336 := kb_ BK336 hb; replace BK337 := kb_ BK337 hb; replace HB := Aside0.mk (below_step oB hb); clear hb hbox hg; have hnb42 := NB354_336.out; have hnc42 := NB336_354.out; have hnb43 := NB354_337.out; have hnc43 := NB337_354.out; obtain ⟨⟨_, _, _, _, _, _⟩, _, _, _, _, _, _⟩ := z6 BK354; obtain ⟨Ao45, co45, eo45⟩ := Kd.R_slice HO346.out; subst eo45; obtain ⟨Ao46, co46, eo46⟩ := Kd.R_slice HO349.out; subst eo46; obtain ⟨Ao47, co47, eo47⟩ := Kd.R_slice HO352.out; subst eo47; obtain ⟨⟨_, _, _, _, _, _, _⟩, _, _, _, _, _, _, _⟩ := z7 BK337))
  refine bodyPost_ret (results_ct rfl _ _ gb337 84 #[.int .i64 0, .int .i64 0, .int .i64 0, .slice none 0 0, .slice none 0 0, .slice none 0 0, .string (⟨#[]⟩ : ByteArray)] (0, 0) _ rfl (oP BK337) Tryz.underlying84 rfl (by kernel_rfl)) rfl ?_
  exact ⟨_, _, _, oE, by first | exact Kd.R_nil _ _ _ _ _ | exact Kd.N_nil _ _ _ _ _ | exact Kd.V_nil _ _ _ _ _ | exact Kd.Q_nil _ _ _ _ _ | exact Kd.S_nil _ _ _ _ _, by first | exact Kd.R_nil _ _ _ _ _ | exact Kd.N_nil _ _ _ _ _ | exact Kd.V_nil _ _ _ _ _ | exact Kd.Q_nil _ _ _ _ _ | exact Kd.S_nil _ _ _ _ _, by first | exact Kd.R_nil _ _ _ _ _ | exact Kd.N_nil _ _ _ _ _ | exact Kd.V_nil _ _ _ _ _ | exact Kd.Q_nil _ _ _ _ _ | exact Kd.S_nil _ _ _ _ _, oB⟩

/-! ### impl_fileAt: function 48 -/
def impl_fileAt.f (k : Nat) (l0_0 : List (S51)) (a0_1 : Int) (a1 : ByteArray) : Option (Int × Int × Int × List Int × (List (S65)) × (List (S71)) × Int) := (impl_Stat.f k l0_0 a0_1 a1).bind fun bt410 => (if bt410.2.2.2.2.2.2 = 0 then (if bt410.2.1 = 1 then (some (bt410.1, bt410.2.1, bt410.2.2.1, bt410.2.2.2.1, bt410.2.2.2.2.1, bt410.2.2.2.2.2.1, bt410.2.2.2.2.2.2)) else (some (bt410.1, bt410.2.1, bt410.2.2.1, bt410.2.2.2.1, bt410.2.2.2.2.1, bt410.2.2.2.2.2.1, 3))) else (some (bt410.1, bt410.2.1, bt410.2.2.1, bt410.2.2.2.1, bt410.2.2.2.2.1, bt410.2.2.2.2.2.1, bt410.2.2.2.2.2.2)))
set_option maxHeartbeats 8000000 in
set_option maxRecDepth 100000 in
theorem impl_fileAt.calls (k : Nat) (A0_0 : Option Addr) (c0_0 : Nat) (l0_0 : List (S51)) (a0_1 : Int) (a1 : ByteArray) (r1 : Int) (r2 : Int) (r3 : Int) (r4 : List Int) (r5 : List (S65)) (r6 : List (S71)) (r7 : Int) (w : World) (hr0_0 : Kd.C k51 w A0_0 l0_0.length l0_0) (hc0_0 : l0_0.length ≤ c0_0) (h : impl_fileAt.f k l0_0 a0_1 a1 = some (r1, r2, r3, r4, r5, r6, r7)) (hG : GOk w := by exact gk_ oB (by first | (with_reducible assumption) | assumption)) :
  Calls Tryz.prog 48 #[.agg #[.slice A0_0 l0_0.length c0_0, .int .i64 a0_1], .string a1] w fun e w' => ∃ v3_ v4_ v5_ : Value, e = .returned (.tuple #[.agg #[.int .i64 r1, .int .i64 r2, .int .i64 r3, v3_, v4_, v5_], .int .i64 r7]) ∧ Kd.R (Kd.int .u8) 5 w' w.heap.size (fun _ => True) v3_ r4 ∧ Kd.R k65 65 w' w.heap.size (fun _ => True) v4_ r5 ∧ Kd.R k71 71 w' w.heap.size (fun _ => True) v5_ r6 ∧ Below w.heap.size w w' := by
 have HG := Aside0.mk hG
 clear hG
 have hu26 := Tryz.underlying26
 have hu51 := Tryz.underlying51
 have HR0_0 := Aside0.mk hr0_0
 have HC0_0 := Aside0.mk hc0_0
 clear hr0_0 hc0_0
 have HB := Aside0.mk (Below.refl w.heap.size w)
 unfold impl_fileAt.f at h
 have H := h
 clear h
 replace H := bA H
 obtain ⟨⟨t410, t411, t412, t413, t416, t419, t422⟩, A3, H⟩ := H
 try dsimp only at H
 by_cases c4 : t422 = 0
 ·rw [if_pos c4] at H
  have c4b0 : (t422 == 0) = true := beq_iff_eq.mpr c4
  have c4b1 : (t422 != 0) = false := bne_eq_false_iff_eq.mpr c4
  clear c4
  by_cases c5 : t411 = 1
  ·rw [if_pos c5] at H
   have c5b0 : (t411 == 1) = true := beq_iff_eq.mpr c5
   have c5b1 : (t411 != 1) = false := bne_eq_false_iff_eq.mpr c5
   clear c5
   simp only [Option.some.injEq, Prod.mk.injEq] at H
   obtain ⟨rfl, rfl, rfl, rfl, rfl, rfl, rfl⟩ := H
   go_enter Tryz.func48, Tryz.ntmps48
   go_wp2_with (first | ((with_reducible refine gate_dst (N := 2) rfl ?_); refine bx_ 2 #[.slice A0_0 l0_0.length c0_0, .int .i64 a0_1] 26 ?_; intro gb408 hg w6 hbox hb; have BK408 := Aside0.mk (hbox); have GW408 := gs_ hg; replace HB := Aside0.mk (below_step oB hb); clear hb hbox hg) | ((with_reducible refine gate_dst (N := 4) rfl ?_); refine bx_ 4 #[.int .i64 0, .int .i64 0, .int .i64 0, .slice none 0 0, .slice none 0 0, .slice none 0 0] 51 ?_; intro gb409 hg w7 hbox hb; have BK409 := Aside0.mk (hbox); have GW409 := gs_ hg; have NB408_409 := nl_ hg BK408; have NB409_408 := nr_ hg BK408; replace BK408 := kb_ BK408 hb; replace HB := Aside0.mk (below_step oB hb); clear hb hbox hg; have hnb8 := NB408_409.out; have hnc8 := NB409_408.out; obtain ⟨⟨_, _⟩, _, _⟩ := z2 BK408) | ((with_reducible refine gate_callee (f := 28) rfl ?_); refine gl_ 11 Tryz.func28 (impl_Stat.calls k _ _ l0_0 a0_1 a1 t410 t411 t412 t413 t416 t419 t422 _ (kC HR0_0) HC0_0.out A3.out) ?_; rintro e w10 ⟨v414, v417, v420, rfl, ho0, ho1, ho2, hb⟩; refine ⟨_, rfl, ?_⟩; have HO415 := Aside0.mk (Kd.R_lower ho0 (below_size oB)); have HO418 := Aside0.mk (Kd.R_lower ho1 (below_size oB)); have HO421 := Aside0.mk (Kd.R_lower ho2 (below_size oB)); replace BK408 := kb_ BK408 hb; replace BK409 := kb_ BK409 hb; replace HB := Aside0.mk (below_step oB hb); (try clear ho1); (try clear ho2)) | ((with_reducible refine gate_dst (N := 6) rfl ?_); refine bx_ 6 #[.int .i64 0, .int .i64 0, .int .i64 0, .slice none 0 0, .slice none 0 0, .slice none 0 0] 51 ?_; intro gb423 hg w11 hbox hb; have BK423 := Aside0.mk (hbox); have GW423 := gs_ hg; have NB408_423 := nl_ hg BK408; have NB423_408 := nr_ hg BK408; have NB409_423 := nl_ hg BK409; have NB423_409 := nr_ hg BK409; replace HO415 := kr_ HO415 hb; replace HO418 := kr_ HO418 hb; replace HO421 := kr_ HO421 hb; replace BK408 := kb_ BK408 hb; replace BK409 := kb_ BK409 hb; replace HB := Aside0.mk (below_step oB hb); clear hb hbox hg; have hnb12 := NB423_408.out; have hnc12 := NB408_423.out; have hnb13 := NB423_409.out; have hnc13 := NB409_423.out; obtain ⟨⟨_, _, _, _, _, _⟩, _, _, _, _, _, _⟩ := z6 BK423; obtain ⟨Ao15, co15, eo15⟩ := Kd.R_slice HO415.out; subst eo15; obtain ⟨Ao16, co16, eo16⟩ := Kd.R_slice HO418.out; subst eo16; obtain ⟨Ao17, co17, eo17⟩ := Kd.R_slice HO421.out; subst eo17; obtain ⟨⟨_, _, _, _, _, _⟩, _, _, _, _, _, _⟩ := z6 BK409))
   refine bodyPost_ret (results_ct rfl _ _ gb409 51 #[.int .i64 t410, .int .i64 t411, .int .i64 t412, .slice Ao15 t413.length co15, .slice Ao16 t416.length co16, .slice Ao17 t419.length co17] (0, 0) _ rfl (oP BK409) Tryz.underlying51 rfl (by kernel_rfl)) rfl ?_
   exact ⟨_, _, _, oE, by (with_reducible repeat (first | apply Kd.R_alloc | apply Kd.R_drewN | apply Kd.R_drew)); exact Kd.R_mono (Kd.R_far (p := ⟨gb409, 5, none⟩) (Kd.R_far (p := ⟨gb409, 4, none⟩) (Kd.R_far (p := ⟨gb409, 3, none⟩) (Kd.R_far (p := ⟨gb409, 2, none⟩) (Kd.R_far (p := ⟨gb409, 1, none⟩) (Kd.R_far (p := ⟨gb409, 0, none⟩) (Kd.R_far (p := ⟨gb423, 5, none⟩) (Kd.R_far (p := ⟨gb423, 4, none⟩) (Kd.R_far (p := ⟨gb423, 3, none⟩) (Kd.R_far (p := ⟨gb423, 2, none⟩) (Kd.R_far (p := ⟨gb423, 1, none⟩) (Kd.R_far (p := ⟨gb423, 0, none⟩) (Kd.R_types (Kd.R_types HO415.out BK423.out (by decide)) BK409.out (by decide)) (fun _ hk => hk.1.2) (.int .i64 t410)) (fun _ hk => hk.1.2) (.int .i64 t411)) (fun _ hk => hk.1.2) (.int .i64 t412)) (fun _ hk => hk.1.2) (.slice Ao15 t413.length co15)) (fun _ hk => hk.1.2) (.slice Ao16 t416.length co16)) (fun _ hk => hk.1.2) (.slice Ao17 t419.length co17)) (fun _ hk => hk.2) (.int .i64 t410)) (fun _ hk => hk.2) (.int .i64 t411)) (fun _ hk => hk.2) (.int .i64 t412)) (fun _ hk => hk.2) (.slice Ao15 t413.length co15)) (fun _ hk => hk.2) (.slice Ao16 t416.length co16)) (fun _ hk => hk.2) (.slice Ao17 t419.length co17)) (fun _ hk => trivial), by (with_reducible repeat (first | apply Kd.R_alloc | apply Kd.R_drewN | apply Kd.R_drew)); exact Kd.R_mono (Kd.R_far (p := ⟨gb409, 5, none⟩) (Kd.R_far (p := ⟨gb409, 4, none⟩) (Kd.R_far (p := ⟨gb409, 3, none⟩) (Kd.R_far (p := ⟨gb409, 2, none⟩) (Kd.R_far (p := ⟨gb409, 1, none⟩) (Kd.R_far (p := ⟨gb409, 0, none⟩) (Kd.R_far (p := ⟨gb423, 5, none⟩) (Kd.R_far (p := ⟨gb423, 4, none⟩) (Kd.R_far (p := ⟨gb423, 3, none⟩) (Kd.R_far (p := ⟨gb423, 2, none⟩) (Kd.R_far (p := ⟨gb423, 1, none⟩) (Kd.R_far (p := ⟨gb423, 0, none⟩) (Kd.R_types (Kd.R_types HO418.out BK423.out (by decide)) BK409.out (by decide)) (fun _ hk => hk.1.2) (.int .i64 t410)) (fun _ hk => hk.1.2) (.int .i64 t411)) (fun _ hk => hk.1.2) (.int .i64 t412)) (fun _ hk => hk.1.2) (.slice Ao15 t413.length co15)) (fun _ hk => hk.1.2) (.slice Ao16 t416.length co16)) (fun _ hk => hk.1.2) (.slice Ao17 t419.length co17)) (fun _ hk => hk.2) (.int .i64 t410)) (fun _ hk => hk.2) (.int .i64 t411)) (fun _ hk => hk.2) (.int .i64 t412)) (fun _ hk => hk.2) (.slice Ao15 t413.length co15)) (fun _ hk => hk.2) (.slice Ao16 t416.length co16)) (fun _ hk => hk.2) (.slice Ao17 t419.length co17)) (fun _ hk => trivial), by (with_reducible repeat (first | apply Kd.R_alloc | apply Kd.R_drewN | apply Kd.R_drew)); exact Kd.R_mono (Kd.R_far (p := ⟨gb409, 5, none⟩) (Kd.R_far (p := ⟨gb409, 4, none⟩) (Kd.R_far (p := ⟨gb409, 3, none⟩) (Kd.R_far (p := ⟨gb409, 2, none⟩) (Kd.R_far (p := ⟨gb409, 1, none⟩) (Kd.R_far (p := ⟨gb409, 0, none⟩) (Kd.R_far (p := ⟨gb423, 5, none⟩) (Kd.R_far (p := ⟨gb423, 4, none⟩) (Kd.R_far (p := ⟨gb423, 3, none⟩) (Kd.R_far (p := ⟨gb423, 2, none⟩) (Kd.R_far (p := ⟨gb423, 1, none⟩) (Kd.R_far (p := ⟨gb423, 0, none⟩) (Kd.R_types (Kd.R_types HO421.out BK423.out (by decide)) BK409.out (by decide)) (fun _ hk => hk.1.2) (.int .i64 t410)) (fun _ hk => hk.1.2) (.int .i64 t411)) (fun _ hk => hk.1.2) (.int .i64 t412)) (fun _ hk => hk.1.2) (.slice Ao15 t413.length co15)) (fun _ hk => hk.1.2) (.slice Ao16 t416.length co16)) (fun _ hk => hk.1.2) (.slice Ao17 t419.length co17)) (fun _ hk => hk.2) (.int .i64 t410)) (fun _ hk => hk.2) (.int .i64 t411)) (fun _ hk => hk.2) (.int .i64 t412)) (fun _ hk => hk.2) (.slice Ao15 t413.length co15)) (fun _ hk => hk.2) (.slice Ao16 t416.length co16)) (fun _ hk => hk.2) (.slice Ao17 t419.length co17)) (fun _ hk => trivial), oB⟩
  ·rw [if_neg c5] at H
   have c5b0 : (t411 == 1) = false := beq_eq_false_iff_ne.mpr c5
   have c5b1 : (t411 != 1) = true := bne_iff_ne.mpr c5
   simp only [Option.some.injEq, Prod.mk.injEq] at H
   obtain ⟨rfl, rfl, rfl, rfl, rfl, rfl, rfl⟩ := H
   go_enter Tryz.func48, Tryz.ntmps48
   go_wp2_with (first | ((with_reducible refine gate_dst (N := 2) rfl ?_); refine bx_ 2 #[.slice A0_0 l0_0.length c0_0, .int .i64 a0_1] 26 ?_; intro gb408 hg w19 hbox hb; have BK408 := Aside0.mk (hbox); have GW408 := gs_ hg; replace HB := Aside0.mk (below_step oB hb); clear hb hbox hg) | ((with_reducible refine gate_dst (N := 4) rfl ?_); refine bx_ 4 #[.int .i64 0, .int .i64 0, .int .i64 0, .slice none 0 0, .slice none 0 0, .slice none 0 0] 51 ?_; intro gb409 hg w20 hbox hb; have BK409 := Aside0.mk (hbox); have GW409 := gs_ hg; have NB408_409 := nl_ hg BK408; have NB409_408 := nr_ hg BK408; replace BK408 := kb_ BK408 hb; replace HB := Aside0.mk (below_step oB hb); clear hb hbox hg; have hnb21 := NB408_409.out; have hnc21 := NB409_408.out; obtain ⟨⟨_, _⟩, _, _⟩ := z2 BK408) | ((with_reducible refine gate_callee (f := 28) rfl ?_); refine gl_ 11 Tryz.func28 (impl_Stat.calls k _ _ l0_0 a0_1 a1 t410 t411 t412 t413 t416 t419 t422 _ (kC HR0_0) HC0_0.out A3.out) ?_; rintro e w23 ⟨v414, v417, v420, rfl, ho0, ho1, ho2, hb⟩; refine ⟨_, rfl, ?_⟩; have HO415 := Aside0.mk (Kd.R_lower ho0 (below_size oB)); have HO418 := Aside0.mk (Kd.R_lower ho1 (below_size oB)); have HO421 := Aside0.mk (Kd.R_lower ho2 (below_size oB)); replace BK408 := kb_ BK408 hb; replace BK409 := kb_ BK409 hb; replace HB := Aside0.mk (below_step oB hb); (try clear ho1); (try clear ho2)) | ((with_reducible refine gate_dst (N := 6) rfl ?_); refine bx_ 6 #[.int .i64 0, .int .i64 0, .int .i64 0, .slice none 0 0, .slice none 0 0, .slice none 0 0] 51 ?_; intro gb423 hg w24 hbox hb; have BK423 := Aside0.mk (hbox); have GW423 := gs_ hg; have NB408_423 := nl_ hg BK408; have NB423_408 := nr_ hg BK408; have NB409_423 := nl_ hg BK409; have NB423_409 := nr_ hg BK409; replace HO415 := kr_ HO415 hb; replace HO418 := kr_ HO418 hb; replace HO421 := kr_ HO421 hb; replace BK408 := kb_ BK408 hb; replace BK409 := kb_ BK409 hb; replace HB := Aside0.mk (below_step oB hb); clear hb hbox hg; have hnb25 := NB423_408.out; have hnc25 := NB408_423.out; have hnb26 := NB423_409.out; have hnc26 := NB409_423.out; obtain ⟨⟨_, _, _, _, _, _⟩, _, _, _, _, _, _⟩ := z6 BK423; obtain ⟨Ao28, co28, eo28⟩ := Kd.R_slice HO415.out; subst eo28; obtain ⟨Ao29, co29, eo29⟩ := Kd.R_slice HO418.out; subst eo29; obtain ⟨Ao30, co30, eo30⟩ := Kd.R_slice HO421.out; subst eo30; obtain ⟨⟨_, _, _, _, _, _⟩, _, _, _, _, _, _⟩ := z6 BK409))
   refine bodyPost_ret (results_ct rfl _ _ gb409 51 #[.int .i64 t410, .int .i64 t411, .int .i64 t412, .slice Ao28 t413.length co28, .slice Ao29 t416.length co29, .slice Ao30 t419.length co30] (0, 0) _ rfl (oP BK409) Tryz.underlying51 rfl (by kernel_rfl)) rfl ?_
   exact ⟨_, _, _, oE, by (with_reducible repeat (first | apply Kd.R_alloc | apply Kd.R_drewN | apply Kd.R_drew)); exact Kd.R_mono (Kd.R_far (p := ⟨gb409, 5, none⟩) (Kd.R_far (p := ⟨gb409, 4, none⟩) (Kd.R_far (p := ⟨gb409, 3, none⟩) (Kd.R_far (p := ⟨gb409, 2, none⟩) (Kd.R_far (p := ⟨gb409, 1, none⟩) (Kd.R_far (p := ⟨gb409, 0, none⟩) (Kd.R_far (p := ⟨gb423, 5, none⟩) (Kd.R_far (p := ⟨gb423, 4, none⟩) (Kd.R_far (p := ⟨gb423, 3, none⟩) (Kd.R_far (p := ⟨gb423, 2, none⟩) (Kd.R_far (p := ⟨gb423, 1, none⟩) (Kd.R_far (p := ⟨gb423, 0, none⟩) (Kd.R_types (Kd.R_types HO415.out BK423.out (by decide)) BK409.out (by decide)) (fun _ hk => hk.1.2) (.int .i64 t410)) (fun _ hk => hk.1.2) (.int .i64 t411)) (fun _ hk => hk.1.2) (.int .i64 t412)) (fun _ hk => hk.1.2) (.slice Ao28 t413.length co28)) (fun _ hk => hk.1.2) (.slice Ao29 t416.length co29)) (fun _ hk => hk.1.2) (.slice Ao30 t419.length co30)) (fun _ hk => hk.2) (.int .i64 t410)) (fun _ hk => hk.2) (.int .i64 t411)) (fun _ hk => hk.2) (.int .i64 t412)) (fun _ hk => hk.2) (.slice Ao28 t413.length co28)) (fun _ hk => hk.2) (.slice Ao29 t416.length co29)) (fun _ hk => hk.2) (.slice Ao30 t419.length co30)) (fun _ hk => trivial), by (with_reducible repeat (first | apply Kd.R_alloc | apply Kd.R_drewN | apply Kd.R_drew)); exact Kd.R_mono (Kd.R_far (p := ⟨gb409, 5, none⟩) (Kd.R_far (p := ⟨gb409, 4, none⟩) (Kd.R_far (p := ⟨gb409, 3, none⟩) (Kd.R_far (p := ⟨gb409, 2, none⟩) (Kd.R_far (p := ⟨gb409, 1, none⟩) (Kd.R_far (p := ⟨gb409, 0, none⟩) (Kd.R_far (p := ⟨gb423, 5, none⟩) (Kd.R_far (p := ⟨gb423, 4, none⟩) (Kd.R_far (p := ⟨gb423, 3, none⟩) (Kd.R_far (p := ⟨gb423, 2, none⟩) (Kd.R_far (p := ⟨gb423, 1, none⟩) (Kd.R_far (p := ⟨gb423, 0, none⟩) (Kd.R_types (Kd.R_types HO418.out BK423.out (by decide)) BK409.out (by decide)) (fun _ hk => hk.1.2) (.int .i64 t410)) (fun _ hk => hk.1.2) (.int .i64 t411)) (fun _ hk => hk.1.2) (.int .i64 t412)) (fun _ hk => hk.1.2) (.slice Ao28 t413.length co28)) (fun _ hk => hk.1.2) (.slice Ao29 t416.length co29)) (fun _ hk => hk.1.2) (.slice Ao30 t419.length co30)) (fun _ hk => hk.2) (.int .i64 t410)) (fun _ hk => hk.2) (.int .i64 t411)) (fun _ hk => hk.2) (.int .i64 t412)) (fun _ hk => hk.2) (.slice Ao28 t413.length co28)) (fun _ hk => hk.2) (.slice Ao29 t416.length co29)) (fun _ hk => hk.2) (.slice Ao30 t419.length co30)) (fun _ hk => trivial), by (with_reducible repeat (first | apply Kd.R_alloc | apply Kd.R_drewN | apply Kd.R_drew)); exact Kd.R_mono (Kd.R_far (p := ⟨gb409, 5, none⟩) (Kd.R_far (p := ⟨gb409, 4, none⟩) (Kd.R_far (p := ⟨gb409, 3, none⟩) (Kd.R_far (p := ⟨gb409, 2, none⟩) (Kd.R_far (p := ⟨gb409, 1, none⟩) (Kd.R_far (p := ⟨gb409, 0, none⟩) (Kd.R_far (p := ⟨gb423, 5, none⟩) (Kd.R_far (p := ⟨gb423, 4, none⟩) (Kd.R_far (p := ⟨gb423, 3, none⟩) (Kd.R_far (p := ⟨gb423, 2, none⟩) (Kd.R_far (p := ⟨gb423, 1, none⟩) (Kd.R_far (p := ⟨gb423, 0, none⟩) (Kd.R_types (Kd.R_types HO421.out BK423.out (by decide)) BK409.out (by decide)) (fun _ hk => hk.1.2) (.int .i64 t410)) (fun _ hk => hk.1.2) (.int .i64 t411)) (fun _ hk => hk.1.2) (.int .i64 t412)) (fun _ hk => hk.1.2) (.slice Ao28 t413.length co28)) (fun _ hk => hk.1.2) (.slice Ao29 t416.length co29)) (fun _ hk => hk.1.2) (.slice Ao30 t419.length co30)) (fun _ hk => hk.2) (.int .i64 t410)) (fun _ hk => hk.2) (.int .i64 t411)) (fun _ hk => hk.2) (.int .i64 t412)) (fun _ hk => hk.2) (.slice Ao28 t413.length co28)) (fun _ hk => hk.2) (.slice Ao29 t416.length co29)) (fun _ hk => hk.2) (.slice Ao30 t419.length co30)) (fun _ hk => trivial), oB⟩
 ·rw [if_neg c4] at H
  have c4b0 : (t422 == 0) = false := beq_eq_false_iff_ne.mpr c4
  have c4b1 : (t422 != 0) = true := bne_iff_ne.mpr c4
  simp only [Option.some.injEq, Prod.mk.injEq] at H
  obtain ⟨rfl, rfl, rfl, rfl, rfl, rfl, rfl⟩ := H
  go_enter Tryz.func48, Tryz.ntmps48
  go_wp2_with (first | ((with_reducible refine gate_dst (N := 2) rfl ?_); refine bx_ 2 #[.slice A0_0 l0_0.length c0_0, .int .i64 a0_1] 26 ?_; intro gb408 hg w32 hbox hb; have BK408 := Aside0.mk (hbox); have GW408 := gs_ hg; replace HB := Aside0.mk (below_step oB hb); clear hb hbox hg) | ((with_reducible refine gate_dst (N := 4) rfl ?_); refine bx_ 4 #[.int .i64 0, .int .i64 0, .int .i64 0, .slice none 0 0, .slice none 0 0, .slice none 0 0] 51 ?_; intro gb409 hg w33 hbox hb; have BK409 := Aside0.mk (hbox); have GW409 := gs_ hg; have NB408_409 := nl_ hg BK408; have NB409_408 := nr_ hg BK408; replace BK408 := kb_ BK408 hb; replace HB := Aside0.mk (below_step oB hb); clear hb hbox hg; have hnb34 := NB408_409.out; have hnc34 := NB409_408.out; obtain ⟨⟨_, _⟩, _, _⟩ := z2 BK408) | ((with_reducible refine gate_callee (f := 28) rfl ?_); refine gl_ 11 Tryz.func28 (impl_Stat.calls k _ _ l0_0 a0_1 a1 t410 t411 t412 t413 t416 t419 t422 _ (kC HR0_0) HC0_0.out A3.out) ?_; rintro e w36 ⟨v414, v417, v420, rfl, ho0, ho1, ho2, hb⟩; refine ⟨_, rfl, ?_⟩; have HO415 := Aside0.mk (Kd.R_lower ho0 (below_size oB)); have HO418 := Aside0.mk (Kd.R_lower ho1 (below_size oB)); have HO421 := Aside0.mk (Kd.R_lower ho2 (below_size oB)); replace BK408 := kb_ BK408 hb; replace BK409 := kb_ BK409 hb; replace HB := Aside0.mk (below_step oB hb); (try clear ho1); (try clear ho2)) | ((with_reducible refine gate_dst (N := 6) rfl ?_); refine bx_ 6 #[.int .i64 0, .int .i64 0, .int .i64 0, .slice none 0 0, .slice none 0 0, .slice none 0 0] 51 ?_; intro gb423 hg w37 hbox hb; have BK423 := Aside0.mk (hbox); have GW423 := gs_ hg; have NB408_423 := nl_ hg BK408; have NB423_408 := nr_ hg BK408; have NB409_423 := nl_ hg BK409; have NB423_409 := nr_ hg BK409; replace HO415 := kr_ HO415 hb; replace HO418 := kr_ HO418 hb; replace HO421 := kr_ HO421 hb; replace BK408 := kb_ BK408 hb; replace BK409 := kb_ BK409 hb; replace HB := Aside0.mk (below_step oB hb); clear hb hbox hg; have hnb38 := NB423_408.out; have hnc38 := NB408_423.out; have hnb39 := NB423_409.out; have hnc39 := NB409_423.out; obtain ⟨⟨_, _, _, _, _, _⟩, _, _, _, _, _, _⟩ := z6 BK423; obtain ⟨Ao41, co41, eo41⟩ := Kd.R_slice HO415.out; subst eo41; obtain ⟨Ao42, co42, eo42⟩ := Kd.R_slice HO418.out; subst eo42; obtain ⟨Ao43, co43, eo43⟩ := Kd.R_slice HO421.out; subst eo43; obtain ⟨⟨_, _, _, _, _, _⟩, _, _, _, _, _, _⟩ := z6 BK409))
  refine bodyPost_ret (results_ct rfl _ _ gb409 51 #[.int .i64 t410, .int .i64 t411, .int .i64 t412, .slice Ao41 t413.length co41, .slice Ao42 t416.length co42, .slice Ao43 t419.length co43] (0, 0) _ rfl (oP BK409) Tryz.underlying51 rfl (by kernel_rfl)) rfl ?_
  exact ⟨_, _, _, oE, by (with_reducible repeat (first | apply Kd.R_alloc | apply Kd.R_drewN | apply Kd.R_drew)); exact Kd.R_mono (Kd.R_far (p := ⟨gb409, 5, none⟩) (Kd.R_far (p := ⟨gb409, 4, none⟩) (Kd.R_far (p := ⟨gb409, 3, none⟩) (Kd.R_far (p := ⟨gb409, 2, none⟩) (Kd.R_far (p := ⟨gb409, 1, none⟩) (Kd.R_far (p := ⟨gb409, 0, none⟩) (Kd.R_far (p := ⟨gb423, 5, none⟩) (Kd.R_far (p := ⟨gb423, 4, none⟩) (Kd.R_far (p := ⟨gb423, 3, none⟩) (Kd.R_far (p := ⟨gb423, 2, none⟩) (Kd.R_far (p := ⟨gb423, 1, none⟩) (Kd.R_far (p := ⟨gb423, 0, none⟩) (Kd.R_types (Kd.R_types HO415.out BK423.out (by decide)) BK409.out (by decide)) (fun _ hk => hk.1.2) (.int .i64 t410)) (fun _ hk => hk.1.2) (.int .i64 t411)) (fun _ hk => hk.1.2) (.int .i64 t412)) (fun _ hk => hk.1.2) (.slice Ao41 t413.length co41)) (fun _ hk => hk.1.2) (.slice Ao42 t416.length co42)) (fun _ hk => hk.1.2) (.slice Ao43 t419.length co43)) (fun _ hk => hk.2) (.int .i64 t410)) (fun _ hk => hk.2) (.int .i64 t411)) (fun _ hk => hk.2) (.int .i64 t412)) (fun _ hk => hk.2) (.slice Ao41 t413.length co41)) (fun _ hk => hk.2) (.slice Ao42 t416.length co42)) (fun _ hk => hk.2) (.slice Ao43 t419.length co43)) (fun _ hk => trivial), by (with_reducible repeat (first | apply Kd.R_alloc | apply Kd.R_drewN | apply Kd.R_drew)); exact Kd.R_mono (Kd.R_far (p := ⟨gb409, 5, none⟩) (Kd.R_far (p := ⟨gb409, 4, none⟩) (Kd.R_far (p := ⟨gb409, 3, none⟩) (Kd.R_far (p := ⟨gb409, 2, none⟩) (Kd.R_far (p := ⟨gb409, 1, none⟩) (Kd.R_far (p := ⟨gb409, 0, none⟩) (Kd.R_far (p := ⟨gb423, 5, none⟩) (Kd.R_far (p := ⟨gb423, 4, none⟩) (Kd.R_far (p := ⟨gb423, 3, none⟩) (Kd.R_far (p := ⟨gb423, 2, none⟩) (Kd.R_far (p := ⟨gb423, 1, none⟩) (Kd.R_far (p := ⟨gb423, 0, none⟩) (Kd.R_types (Kd.R_types HO418.out BK423.out (by decide)) BK409.out (by decide)) (fun _ hk => hk.1.2) (.int .i64 t410)) (fun _ hk => hk.1.2) (.int .i64 t411)) (fun _ hk => hk.1.2) (.int .i64 t412)) (fun _ hk => hk.1.2) (.slice Ao41 t413.length co41)) (fun _ hk => hk.1.2) (.slice Ao42 t416.length co42)) (fun _ hk => hk.1.2) (.slice Ao43 t419.length co43)) (fun _ hk => hk.2) (.int .i64 t410)) (fun _ hk => hk.2) (.int .i64 t411)) (fun _ hk => hk.2) (.int .i64 t412)) (fun _ hk => hk.2) (.slice Ao41 t413.length co41)) (fun _ hk => hk.2) (.slice Ao42 t416.length co42)) (fun _ hk => hk.2) (.slice Ao43 t419.length co43)) (fun _ hk => trivial), by (with_reducible repeat (first | apply Kd.R_alloc | apply Kd.R_drewN | apply Kd.R_drew)); exact Kd.R_mono (Kd.R_far (p := ⟨gb409, 5, none⟩) (Kd.R_far (p := ⟨gb409, 4, none⟩) (Kd.R_far (p := ⟨gb409, 3, none⟩) (Kd.R_far (p := ⟨gb409, 2, none⟩) (Kd.R_far (p := ⟨gb409, 1, none⟩) (Kd.R_far (p := ⟨gb409, 0, none⟩) (Kd.R_far (p := ⟨gb423, 5, none⟩) (Kd.R_far (p := ⟨gb423, 4, none⟩) (Kd.R_far (p := ⟨gb423, 3, none⟩) (Kd.R_far (p := ⟨gb423, 2, none⟩) (Kd.R_far (p := ⟨gb423, 1, none⟩) (Kd.R_far (p := ⟨gb423, 0, none⟩) (Kd.R_types (Kd.R_types HO421.out BK423.out (by decide)) BK409.out (by decide)) (fun _ hk => hk.1.2) (.int .i64 t410)) (fun _ hk => hk.1.2) (.int .i64 t411)) (fun _ hk => hk.1.2) (.int .i64 t412)) (fun _ hk => hk.1.2) (.slice Ao41 t413.length co41)) (fun _ hk => hk.1.2) (.slice Ao42 t416.length co42)) (fun _ hk => hk.1.2) (.slice Ao43 t419.length co43)) (fun _ hk => hk.2) (.int .i64 t410)) (fun _ hk => hk.2) (.int .i64 t411)) (fun _ hk => hk.2) (.int .i64 t412)) (fun _ hk => hk.2) (.slice Ao41 t413.length co41)) (fun _ hk => hk.2) (.slice Ao42 t416.length co42)) (fun _ hk => hk.2) (.slice Ao43 t419.length co43)) (fun _ hk => trivial), oB⟩

end Go.Proofs.YtkcfmbggdkkfeaaGreatDoor.P
