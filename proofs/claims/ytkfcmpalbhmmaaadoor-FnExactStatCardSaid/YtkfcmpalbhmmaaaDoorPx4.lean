-- By this session's own program (wip/myprint.py) out of the translation; Lean checks it.
import Derived.Test.YtkfcmpalbhmmaaaDoorPx0
import Derived.Test.YtkfcmpalbhmmaaaDoorPx2
import Derived.Test.YtkfcmpalbhmmaaaDoorPx3
namespace Go.Proofs.YtkfcmpalbhmmaaaDoor.P
open Go.RowKit Go.Proofs.YtkfcmpalbhmmaaaDoorW.PrintWords Go.Proofs.YtkfcmpalbhmmaaaDoorW.PrintLast Go.Proofs.YtkfcmpalbhmmaaaDoorW.PrintMore
attribute [local go_sem] max2_int min2_int max_two min_two max_three min_three max_four min_four   -- for this text's walks alone
set_option linter.unusedVariables false
set_option linter.unusedSimpArgs false

/-! ### impl_placeOf: function 92 -/
def placeR (ino : Int) : List S64 → Nat → Int
 | [], _ => -1
 | x :: l, i => if x.f0 = ino then (i : Int) else placeR ino l (i + 1)
theorem placeOf1.calls (ino a b c : Int) (A3 A4 A5 : Option Addr) (n3 c3 n4 c4 n5 c5 : Nat) (B : Nat) (W : World) (hB : B < W.heap.size) (hc : W.cell? ⟨B, 0, none⟩ = some (.int .i64 ino)) :
  Calls Tryd.prog 110 #[.agg #[.int .i64 a, .int .i64 b, .int .i64 c, .slice A3 n3 c3, .slice A4 n4 c4, .slice A5 n5 c5], .pointer (some ⟨B, 0, none⟩)] W fun e w' => e = .returned (.bool (a == ino)) ∧ Below W.heap.size W w' := by
 have hne : B ≠ W.heap.size := by omega
 go_enter Tryd.func110, Tryd.ntmps110
 go_wp2
 all_goals (go_ret; exact ⟨by simp_all, (Below.refl _ W).alloc (Nat.le_refl _) _⟩)
theorem placeR_none (ino : Int) (l : List S64) (i : Nat) (h : ∀ x ∈ l, x.f0 ≠ ino) : placeR ino l i = -1 := by
 induction l generalizing i with
 | nil => rfl
 | cons x l ih => rw [placeR, if_neg (h x (List.mem_cons_self ..))]; exact ih (i + 1) (fun y hy => h y (List.mem_cons_of_mem _ hy))
theorem rd64_at (l : List S64) (k : Nat) (h : k < l.length) : rd_T64 l (k : Int) = l[k] := by
 simp [rd_T64, List.getD_eq_getElem?_getD, List.getElem?_eq_getElem h]
theorem placeR_hit (ino : Int) (l : List S64) (k j : Nat) (h : k < l.length) (hit : (rd_T64 l (k : Int)).f0 = ino) : placeR ino (l.drop k) j = (j : Int) := by
 rw [List.drop_eq_getElem_cons h, placeR, if_pos (by rw [← rd64_at l k h]; exact hit)]
theorem placeR_miss (ino : Int) (l : List S64) (k j : Nat) (h : k < l.length) (hit : (rd_T64 l (k : Int)).f0 ≠ ino) : placeR ino (l.drop k) j = placeR ino (l.drop (k + 1)) (j + 1) := by
 rw [List.drop_eq_getElem_cons h, placeR, if_neg (by rw [← rd64_at l k h]; exact hit)]
set_option maxHeartbeats 400000 in
set_option maxRecDepth 100000 in
theorem placeOf2.calls (ino : Int) (A0 : Option Addr) (c0 : Nat) (l : List S64) (B : Nat) (w : World) (hr : k64.C w A0 l.length l) (hB : B < w.heap.size) (hc : w.cell? ⟨B, 0, none⟩ = some (.int .i64 ino)) (hl : l.length ≤ 9223372036854775807) :
  Calls Tryd.prog 109 #[.slice A0 l.length c0, .func (.func 110) #[] #[.pointer (some ⟨B, 0, none⟩)]] w fun e w' => e = .returned (.int .i64 (placeR ino l 0)) ∧ Below w.heap.size w w' := by
 go_enter Tryd.func109, Tryd.ntmps109
 go_wp2
 go_loopg [5, 8] l.length (fun gg _ s8 wr => ∃ kk : Nat, kk ≤ l.length ∧ l.length - kk ≤ gg ∧ s8 = .int .i64 kk ∧ Aside0 (Below w.heap.size w wr) ∧ Aside0 (placeR ino l 0 = placeR ino (l.drop kk) kk))
 case atStart => exact ⟨0, Nat.zero_le _, by omega, rfl, ⟨Below.refl _ w⟩, ⟨rfl⟩⟩
 case round =>
  obtain ⟨kk, hkk, hg, rfl, BW, A⟩ := hrel
  by_cases hlt : kk < l.length
  ·have hltz : (kk : Int) < (l.length : Int) := by omega
   obtain ⟨ad, A3, c3, A4, c4, A5, c5, e0, h0, h1, h2, h3, h4, h5, _⟩ := at_T64 (Kd.C_below hr BW.out) (kk : Int) (by omega) hltz
   cases e0
   rw [Int.toNat_natCast] at h0 h1 h2 h3 h4 h5
   have hBw : B < wr.heap.size := Nat.lt_of_lt_of_le hB BW.out.size
   have hcw : wr.cell? ⟨B, 0, none⟩ = some (.int .i64 ino) := (BW.out.cell (p := ⟨B, 0, none⟩) hB).trans hc
   by_cases hit : (rd_T64 l (kk : Int)).f0 = ino
   ·have hq : ((rd_T64 l (kk : Int)).f0 == ino) = true := by simpa using hit
    go_wp2_with (go_at_call 110; refine (placeOf1.calls ino _ _ _ _ _ _ _ _ _ _ _ _ B wr hBw hcw).mono ?_; rintro e w' ⟨rfl, hb'⟩)
    go_ret
    exact ⟨by rw [A.out, placeR_hit ino l kk kk hlt hit]; rfl, below_then BW.out BW.out.size hb'⟩
   ·have hq : ((rd_T64 l (kk : Int)).f0 == ino) = false := by simpa using hit
    go_wp2_with (go_at_call 110; refine (placeOf1.calls ino _ _ _ _ _ _ _ _ _ _ _ _ B wr hBw hcw).mono ?_; rintro e w' ⟨rfl, hb'⟩)
    go_roundg (l.length - (kk + 1))
    case measure => omega
    case rel => exact ⟨kk + 1, by omega, by omega, by go_num, ⟨below_then BW.out BW.out.size hb'⟩, ⟨by rw [A.out, placeR_miss ino l kk kk hlt hit]⟩⟩
  ·have hltz : ¬ (kk : Int) < (l.length : Int) := by omega
   obtain rfl : kk = l.length := by omega
   go_wp2
   go_ret
   exact ⟨by rw [A.out, List.drop_length]; rfl, BW.out⟩
def impl_placeOf.f (k : Nat) (l0_0 : List S64) (a0_1 a1 : Int) : Option Int := if (l0_0.length : Int) ≤ 9223372036854775807 then some (placeR a1 l0_0 0) else none
set_option maxHeartbeats 400000 in
theorem impl_placeOf.calls (k : Nat) (A0_0 : Option Addr) (c0_0 : Nat) (l0_0 : List S64) (a0_1 a1 : Int) (r : Int) (w : World) (hr0_0 : Kd.C k64 w A0_0 l0_0.length l0_0) (hc0_0 : l0_0.length ≤ c0_0) (h : impl_placeOf.f k l0_0 a0_1 a1 = some r) :
  Calls Tryd.prog 92 #[.agg #[.slice A0_0 l0_0.length c0_0, .int .i64 a0_1], .int .i64 a1] w fun e w' => e = .returned (.int .i64 r) ∧ Below w.heap.size w w' := by
 unfold impl_placeOf.f at h
 split at h
 case isFalse => cases h
 case isTrue hl =>
 obtain rfl := Option.some.inj h
 clear h
 have hw1 : Below w.heap.size w (w.alloc (.cells #[.slice A0_0 l0_0.length c0_0, .int .i64 a0_1] 46)) := (Below.refl _ w).alloc (Nat.le_refl _) _
 have hw2 : Below w.heap.size w ((w.alloc (.cells #[.slice A0_0 l0_0.length c0_0, .int .i64 a0_1] 46)).alloc (.cells #[.int .i64 a1] 3)) := hw1.alloc (by simp) _
 have hcon := placeOf2.calls a1 A0_0 c0_0 l0_0 (w.heap.size + 1) ((w.alloc (.cells #[.slice A0_0 l0_0.length c0_0, .int .i64 a0_1] 46)).alloc (.cells #[.int .i64 a1] 3)) (Kd.C_below hr0_0 hw2) (by simp) (by simp) (by omega)
 clear hr0_0 hw1
 go_enter Tryd.func92, Tryd.ntmps92
 go_wp2_with (go_at_call 109; refine hcon.mono ?_; rintro e w' ⟨rfl, hb'⟩)
 go_ret
 exact ⟨rfl, below_then hw2 (by simp only [World.size_alloc]; omega) hb'⟩
/-! ### slices_Clone_byte_byte: function 70 -/
def slices_Clone_byte_byte.f (l0 : List Int) : Option (List Int) := (some (([] : List Int) : List Int)).bind fun y316 => (if y316.length + l0.length < 140737488355328 then (some (y316 ++ l0)) else (none))
set_option maxHeartbeats 8000000 in
set_option maxRecDepth 100000 in
theorem slices_Clone_byte_byte.calls_some (a0_ : Addr) (c0 : Nat) (l0 : List Int) (r : List Int) (w : World) (hr0 : Kd.C (Kd.int .u8) w (some a0_) l0.length l0) (hc0 : l0.length ≤ c0) (h : slices_Clone_byte_byte.f l0 = some r) :
  Calls Tryd.prog 70 #[.slice (some a0_) l0.length c0] w fun e w' => ∃ v0_ : Value, e = .returned (v0_) ∧ Kd.R (Kd.int .u8) 5 w' w.heap.size (fun _ => True) v0_ r ∧ Below w.heap.size w w' := by
 have HR0 := Aside0.mk hr0
 have HC0 := Aside0.mk hc0
 clear hr0 hc0
 have HB := Aside0.mk (Below.refl w.heap.size w)
 unfold slices_Clone_byte_byte.f at h
 have H := h
 clear h
 obtain ⟨y316, hy316⟩ : ∃ y_ : List Int, y_ = (([] : List Int)) := ⟨_, rfl⟩
 replace H : (if y316.length + l0.length < 140737488355328 then (some (y316 ++ l0)) else (none)) = some r := by first | (rw [hy316]; with_reducible exact H) | (have H2_ := (Option.bind_some _ _).symm.trans H; rw [hy316]; with_reducible exact H2_) | (have H2_ := (Option.bind_some _ _).symm.trans H; with_reducible exact H2_) | with_reducible exact H | (rw [hy316]; exact H) | exact H
 have Ny316 := Aside0.mk hy316
 clear hy316
 by_cases c2 : y316.length + l0.length < 140737488355328
 ·rw [if_pos c2] at H
  have LMc2 := Aside0.mk c2
  clear c2
  obtain ⟨y319, hy319⟩ : ∃ y_ : List Int, y_ = (y316 ++ l0) := ⟨_, rfl⟩
  replace H : (some y319) = some r := by first | (rw [hy319]; with_reducible exact H) | (have H2_ := (Option.bind_some _ _).symm.trans H; rw [hy319]; with_reducible exact H2_) | (have H2_ := (Option.bind_some _ _).symm.trans H; with_reducible exact H2_) | with_reducible exact H | (rw [hy319]; exact H) | exact H
  have Ny319 := Aside0.mk hy319
  clear hy319
  obtain rfl := Option.some.inj H
  have hq_ := Lib.run_eql_slice_nil (P := Tryd.prog) w 29 5 (some a0_) l0.length c0 0 0 (by kernel_rfl)
  go_enter Tryd.func70, Tryd.ntmps70
  go_wp2_with (first | ((with_reducible refine gate_dst (N := 5) rfl ?_); refine Kd.R_lit (Kd.int .u8) _ 5 ?hg (N := 5) ?hd (xs := ([] : List Int)) (inner := []) (ok := fun _ => True) (okp := fun _ => True) ?hr ?hp (fun _ hk => hk) trivial (Below.refl _ _) (Nat.le_refl _) (by simp) ?_; (case hd => rfl); (case hg => rfl); (case hr => first | (go_simp; done) | (go_simp; rfl)); (case hp => exact (Reps.none _ _)); intro v317 w3 ho4 hb hg_ hnew_; clear hg_ hnew_; (first | rw [← Ny316.out] at ho4 | (simp only [Int.reduceToNat] at ho4; rw [← Ny316.out] at ho4)); have HO318 := Aside0.mk (Kd.R_lower ho4 (below_size oB)); replace HB := Aside0.mk (below_step oB hb); clear hb ho4) | ((with_reducible refine gate_builtin (b := .append) (xs := #[.tmp 5, .tmp 6]) rfl ?_); at_builtin; refine Kd.R_append_rows (Kd.int .u8) (w0 := w) w.heap.size rfl (.tmp 5) (.tmp 6) 29 5 (.int .u8 0) 1 rfl Tryd.underlying29 info5 rfl (by decide) (by omega) v317 y316 l0 _ _ _ (fun _ => True) (fun _ => False) rfl rfl ?aO ?aR (fun _ _ h => h) (fun _ h => h.elim) ?aF ?aB ?aS ?aL ?_; (case aR => repeat (first | exact (Kd.C_below HR0.out HB.out) | (with_reducible refine Kd.C_alloc ?_ _) | (with_reducible refine Kd.C_drewN ?_ _) | (with_reducible refine Kd.C_drew ?_))); (case aB => exact oB); (case aF => exact (fun _ _ => trivial)); (case aO => exact (oR HO318)); (case aS => exact (below_size oB)); (case aL => have := LMc2.out; omega); intro v320 w5 ho hb hg hat; rw [← Ny319.out] at ho; have HO321 := Aside0.mk (ho); replace HB := Aside0.mk (hb); clear HO318; clear ho hb hg hat))
  go_ret
  exact ⟨_, oE, oR HO321, oB⟩
 ·rw [if_neg c2] at H
  exact absurd H (by simp)

set_option maxHeartbeats 8000000 in
set_option maxRecDepth 100000 in
theorem slices_Clone_byte_byte.calls (A0 : Option Addr) (c0 : Nat) (l0 : List Int) (r : List Int) (w : World) (hr0 : Kd.C (Kd.int .u8) w A0 l0.length l0) (hc0 : l0.length ≤ c0) (h : slices_Clone_byte_byte.f l0 = some r) :
  Calls Tryd.prog 70 #[.slice A0 l0.length c0] w fun e w' => ∃ v0_ : Value, e = .returned (v0_) ∧ Kd.R (Kd.int .u8) 5 w' w.heap.size (fun _ => True) v0_ r ∧ Below w.heap.size w w' := by
 rcases A0 with _ | a0_
 ·have hl_ : l0 = [] := by
   rcases Nat.eq_zero_or_pos l0.length with hz_ | hz_
   ·exact List.eq_nil_of_length_eq_zero hz_
   ·obtain ⟨ad_, he_, _⟩ := hr0.2.2 hz_
    cases he_
  subst hl_
  obtain rfl : r = [] := by
   simp [slices_Clone_byte_byte.f] at h
   exact h
  have hq_ := Lib.run_eql_slice_nil (P := Tryd.prog) w 29 5 none 0 c0 0 0 (by kernel_rfl)
  go_enter Tryd.func70, Tryd.ntmps70
  go_wp2
  go_ret
  exact ⟨_, rfl, Kd.R_nil _ _ _ _ _, Below.refl _ _⟩
 ·exact slices_Clone_byte_byte.calls_some a0_ c0 l0 r w hr0 hc0 h

/-! ### slices_Clone_Ent: function 111 -/
def slices_Clone_Ent.f (l0 : List (S91)) : Option ((List (S91))) := (some (([] : List (S91)) : List (S91))).bind fun y322 => (if y322.length + l0.length < 5864062014805 then (some (y322 ++ l0)) else (none))
set_option maxHeartbeats 8000000 in
set_option maxRecDepth 100000 in
theorem slices_Clone_Ent.calls_some (a0_ : Addr) (c0 : Nat) (l0 : List (S91)) (r : List (S91)) (w : World) (hr0 : Kd.C k91 w (some a0_) l0.length l0) (hc0 : l0.length ≤ c0) (h : slices_Clone_Ent.f l0 = some r) :
  Calls Tryd.prog 111 #[.slice (some a0_) l0.length c0] w fun e w' => ∃ v0_ : Value, e = .returned (v0_) ∧ Kd.R k91 91 w' w.heap.size (fun _ => True) v0_ r ∧ Below w.heap.size w w' := by
 have HR0 := Aside0.mk hr0
 have HC0 := Aside0.mk hc0
 clear hr0 hc0
 have HB := Aside0.mk (Below.refl w.heap.size w)
 unfold slices_Clone_Ent.f at h
 have H := h
 clear h
 obtain ⟨y322, hy322⟩ : ∃ y_ : List (S91), y_ = (([] : List (S91))) := ⟨_, rfl⟩
 replace H : (if y322.length + l0.length < 5864062014805 then (some (y322 ++ l0)) else (none)) = some r := by first | (rw [hy322]; with_reducible exact H) | (have H2_ := (Option.bind_some _ _).symm.trans H; rw [hy322]; with_reducible exact H2_) | (have H2_ := (Option.bind_some _ _).symm.trans H; with_reducible exact H2_) | with_reducible exact H | (rw [hy322]; exact H) | exact H
 have Ny322 := Aside0.mk hy322
 clear hy322
 by_cases c2 : y322.length + l0.length < 5864062014805
 ·rw [if_pos c2] at H
  have LMc2 := Aside0.mk c2
  clear c2
  obtain ⟨y325, hy325⟩ : ∃ y_ : List (S91), y_ = (y322 ++ l0) := ⟨_, rfl⟩
  replace H : (some y325) = some r := by first | (rw [hy325]; with_reducible exact H) | (have H2_ := (Option.bind_some _ _).symm.trans H; rw [hy325]; with_reducible exact H2_) | (have H2_ := (Option.bind_some _ _).symm.trans H; with_reducible exact H2_) | with_reducible exact H | (rw [hy325]; exact H) | exact H
  have Ny325 := Aside0.mk hy325
  clear hy325
  obtain rfl := Option.some.inj H
  have hq_ := Lib.run_eql_slice_nil (P := Tryd.prog) w 61 91 (some a0_) l0.length c0 0 0 (by kernel_rfl)
  go_enter Tryd.func111, Tryd.ntmps111
  go_wp2_with (first | ((with_reducible refine gate_dst (N := 5) rfl ?_); refine Kd.R_lit k91 _ 91 ?hg (N := 5) ?hd (xs := ([] : List (S91))) (inner := []) (ok := fun _ => True) (okp := fun _ => True) ?hr ?hp (fun _ hk => hk) trivial (Below.refl _ _) (Nat.le_refl _) (by simp) ?_; (case hd => rfl); (case hg => rfl); (case hr => first | (go_simp; done) | (go_simp; rfl)); (case hp => exact (Reps.none _ _)); intro v323 w3 ho4 hb hg_ hnew_; clear hg_ hnew_; (first | rw [← Ny322.out] at ho4 | (simp only [Int.reduceToNat] at ho4; rw [← Ny322.out] at ho4)); have HO324 := Aside0.mk (Kd.R_lower ho4 (below_size oB)); replace HB := Aside0.mk (below_step oB hb); clear hb ho4) | ((with_reducible refine gate_builtin (b := .append) (xs := #[.tmp 5, .tmp 6]) rfl ?_); at_builtin; refine Kd.R_append_rows k91 (w0 := w) w.heap.size rfl (.tmp 5) (.tmp 6) 61 91 (.agg #[(.string ⟨#[]⟩), (.int .i64 0)]) 24 rfl Tryd.underlying61 info91 rfl (by decide) (by omega) v323 y322 l0 _ _ _ (fun _ => True) (fun _ => False) rfl rfl ?aO ?aR (fun _ _ h => h) (fun _ h => h.elim) ?aF ?aB ?aS ?aL ?_; (case aR => repeat (first | exact (Kd.C_below HR0.out HB.out) | (with_reducible refine Kd.C_alloc ?_ _) | (with_reducible refine Kd.C_drewN ?_ _) | (with_reducible refine Kd.C_drew ?_))); (case aB => exact oB); (case aF => exact (fun _ _ => trivial)); (case aO => exact (oR HO324)); (case aS => exact (below_size oB)); (case aL => have := LMc2.out; omega); intro v326 w5 ho hb hg hat; rw [← Ny325.out] at ho; have HO327 := Aside0.mk (ho); replace HB := Aside0.mk (hb); clear HO324; clear ho hb hg hat))
  go_ret
  exact ⟨_, oE, oR HO327, oB⟩
 ·rw [if_neg c2] at H
  exact absurd H (by simp)

set_option maxHeartbeats 8000000 in
set_option maxRecDepth 100000 in
theorem slices_Clone_Ent.calls (A0 : Option Addr) (c0 : Nat) (l0 : List (S91)) (r : List (S91)) (w : World) (hr0 : Kd.C k91 w A0 l0.length l0) (hc0 : l0.length ≤ c0) (h : slices_Clone_Ent.f l0 = some r) :
  Calls Tryd.prog 111 #[.slice A0 l0.length c0] w fun e w' => ∃ v0_ : Value, e = .returned (v0_) ∧ Kd.R k91 91 w' w.heap.size (fun _ => True) v0_ r ∧ Below w.heap.size w w' := by
 rcases A0 with _ | a0_
 ·have hl_ : l0 = [] := by
   rcases Nat.eq_zero_or_pos l0.length with hz_ | hz_
   ·exact List.eq_nil_of_length_eq_zero hz_
   ·obtain ⟨ad_, he_, _⟩ := hr0.2.2 hz_
    cases he_
  subst hl_
  obtain rfl : r = [] := by
   simp [slices_Clone_Ent.f] at h
   exact h
  have hq_ := Lib.run_eql_slice_nil (P := Tryd.prog) w 61 91 none 0 c0 0 0 (by kernel_rfl)
  go_enter Tryd.func111, Tryd.ntmps111
  go_wp2
  go_ret
  exact ⟨_, rfl, Kd.R_nil _ _ _ _ _, Below.refl _ _⟩
 ·exact slices_Clone_Ent.calls_some a0_ c0 l0 r w hr0 hc0 h

/-! ### slices_Clone_Attr: function 112 -/
def slices_Clone_Attr.f (l0 : List (S87)) : Option ((List (S87))) := (some (([] : List (S87)) : List (S87))).bind fun y328 => (if y328.length + l0.length < 4398046511104 then (some (y328 ++ l0)) else (none))
set_option maxHeartbeats 8000000 in
set_option maxRecDepth 100000 in
theorem slices_Clone_Attr.calls_some (a0_ : Addr) (c0 : Nat) (l0 : List (S87)) (r : List (S87)) (w : World) (hr0 : Kd.C k87 w (some a0_) l0.length l0) (hc0 : l0.length ≤ c0) (h : slices_Clone_Attr.f l0 = some r) :
  Calls Tryd.prog 112 #[.slice (some a0_) l0.length c0] w fun e w' => ∃ v0_ : Value, e = .returned (v0_) ∧ Kd.R k87 87 w' w.heap.size (fun _ => True) v0_ r ∧ Below w.heap.size w w' := by
 have HR0 := Aside0.mk hr0
 have HC0 := Aside0.mk hc0
 clear hr0 hc0
 have HB := Aside0.mk (Below.refl w.heap.size w)
 unfold slices_Clone_Attr.f at h
 have H := h
 clear h
 obtain ⟨y328, hy328⟩ : ∃ y_ : List (S87), y_ = (([] : List (S87))) := ⟨_, rfl⟩
 replace H : (if y328.length + l0.length < 4398046511104 then (some (y328 ++ l0)) else (none)) = some r := by first | (rw [hy328]; with_reducible exact H) | (have H2_ := (Option.bind_some _ _).symm.trans H; rw [hy328]; with_reducible exact H2_) | (have H2_ := (Option.bind_some _ _).symm.trans H; with_reducible exact H2_) | with_reducible exact H | (rw [hy328]; exact H) | exact H
 have Ny328 := Aside0.mk hy328
 clear hy328
 by_cases c2 : y328.length + l0.length < 4398046511104
 ·rw [if_pos c2] at H
  have LMc2 := Aside0.mk c2
  clear c2
  obtain ⟨y331, hy331⟩ : ∃ y_ : List (S87), y_ = (y328 ++ l0) := ⟨_, rfl⟩
  replace H : (some y331) = some r := by first | (rw [hy331]; with_reducible exact H) | (have H2_ := (Option.bind_some _ _).symm.trans H; rw [hy331]; with_reducible exact H2_) | (have H2_ := (Option.bind_some _ _).symm.trans H; with_reducible exact H2_) | with_reducible exact H | (rw [hy331]; exact H) | exact H
  have Ny331 := Aside0.mk hy331
  clear hy331
  obtain rfl := Option.some.inj H
  have hq_ := Lib.run_eql_slice_nil (P := Tryd.prog) w 62 87 (some a0_) l0.length c0 0 0 (by kernel_rfl)
  go_enter Tryd.func112, Tryd.ntmps112
  go_wp2_with (first | ((with_reducible refine gate_dst (N := 5) rfl ?_); refine Kd.R_lit k87 _ 87 ?hg (N := 5) ?hd (xs := ([] : List (S87))) (inner := []) (ok := fun _ => True) (okp := fun _ => True) ?hr ?hp (fun _ hk => hk) trivial (Below.refl _ _) (Nat.le_refl _) (by simp) ?_; (case hd => rfl); (case hg => rfl); (case hr => first | (go_simp; done) | (go_simp; rfl)); (case hp => exact (Reps.none _ _)); intro v329 w3 ho4 hb hg_ hnew_; clear hg_ hnew_; (first | rw [← Ny328.out] at ho4 | (simp only [Int.reduceToNat] at ho4; rw [← Ny328.out] at ho4)); have HO330 := Aside0.mk (Kd.R_lower ho4 (below_size oB)); replace HB := Aside0.mk (below_step oB hb); clear hb ho4) | ((with_reducible refine gate_builtin (b := .append) (xs := #[.tmp 5, .tmp 6]) rfl ?_); at_builtin; refine Kd.R_append_rows k87 (w0 := w) w.heap.size rfl (.tmp 5) (.tmp 6) 62 87 (.agg #[(.string ⟨#[]⟩), (.string ⟨#[]⟩)]) 32 rfl Tryd.underlying62 info87 rfl (by decide) (by omega) v329 y328 l0 _ _ _ (fun _ => True) (fun _ => False) rfl rfl ?aO ?aR (fun _ _ h => h) (fun _ h => h.elim) ?aF ?aB ?aS ?aL ?_; (case aR => repeat (first | exact (Kd.C_below HR0.out HB.out) | (with_reducible refine Kd.C_alloc ?_ _) | (with_reducible refine Kd.C_drewN ?_ _) | (with_reducible refine Kd.C_drew ?_))); (case aB => exact oB); (case aF => exact (fun _ _ => trivial)); (case aO => exact (oR HO330)); (case aS => exact (below_size oB)); (case aL => have := LMc2.out; omega); intro v332 w5 ho hb hg hat; rw [← Ny331.out] at ho; have HO333 := Aside0.mk (ho); replace HB := Aside0.mk (hb); clear HO330; clear ho hb hg hat))
  go_ret
  exact ⟨_, oE, oR HO333, oB⟩
 ·rw [if_neg c2] at H
  exact absurd H (by simp)

set_option maxHeartbeats 8000000 in
set_option maxRecDepth 100000 in
theorem slices_Clone_Attr.calls (A0 : Option Addr) (c0 : Nat) (l0 : List (S87)) (r : List (S87)) (w : World) (hr0 : Kd.C k87 w A0 l0.length l0) (hc0 : l0.length ≤ c0) (h : slices_Clone_Attr.f l0 = some r) :
  Calls Tryd.prog 112 #[.slice A0 l0.length c0] w fun e w' => ∃ v0_ : Value, e = .returned (v0_) ∧ Kd.R k87 87 w' w.heap.size (fun _ => True) v0_ r ∧ Below w.heap.size w w' := by
 rcases A0 with _ | a0_
 ·have hl_ : l0 = [] := by
   rcases Nat.eq_zero_or_pos l0.length with hz_ | hz_
   ·exact List.eq_nil_of_length_eq_zero hz_
   ·obtain ⟨ad_, he_, _⟩ := hr0.2.2 hz_
    cases he_
  subst hl_
  obtain rfl : r = [] := by
   simp [slices_Clone_Attr.f] at h
   exact h
  have hq_ := Lib.run_eql_slice_nil (P := Tryd.prog) w 62 87 none 0 c0 0 0 (by kernel_rfl)
  go_enter Tryd.func112, Tryd.ntmps112
  go_wp2
  go_ret
  exact ⟨_, rfl, Kd.R_nil _ _ _ _ _, Below.refl _ _⟩
 ·exact slices_Clone_Attr.calls_some a0_ c0 l0 r w hr0 hc0 h

/-! ### impl_copyInode: function 93 -/
def impl_copyInode.f (a0_0 : Int) (a0_1 : Int) (a0_2 : Int) (l0_3 : List Int) (l0_4 : List (S91)) (l0_5 : List (S87)) : Option (Int × Int × Int × List Int × (List (S91)) × (List (S87))) := (slices_Clone_byte_byte.f l0_3).bind fun t336 => ((slices_Clone_Ent.f l0_4).bind fun t339 => ((slices_Clone_Attr.f l0_5).bind fun t342 => (some (a0_0, a0_1, a0_2, t336, t339, t342))))
set_option maxHeartbeats 8000000 in
set_option maxRecDepth 100000 in
theorem impl_copyInode.calls (a0_0 : Int) (a0_1 : Int) (a0_2 : Int) (A0_3 : Option Addr) (c0_3 : Nat) (l0_3 : List Int) (A0_4 : Option Addr) (c0_4 : Nat) (l0_4 : List (S91)) (A0_5 : Option Addr) (c0_5 : Nat) (l0_5 : List (S87)) (r1 : Int) (r2 : Int) (r3 : Int) (r4 : List Int) (r5 : List (S91)) (r6 : List (S87)) (w : World) (hr0_3 : Kd.C (Kd.int .u8) w A0_3 l0_3.length l0_3) (hc0_3 : l0_3.length ≤ c0_3) (hr0_4 : Kd.C k91 w A0_4 l0_4.length l0_4) (hc0_4 : l0_4.length ≤ c0_4) (hr0_5 : Kd.C k87 w A0_5 l0_5.length l0_5) (hc0_5 : l0_5.length ≤ c0_5) (h : impl_copyInode.f a0_0 a0_1 a0_2 l0_3 l0_4 l0_5 = some (r1, r2, r3, r4, r5, r6)) :
  Calls Tryd.prog 93 #[.agg #[.int .i64 a0_0, .int .i64 a0_1, .int .i64 a0_2, .slice A0_3 l0_3.length c0_3, .slice A0_4 l0_4.length c0_4, .slice A0_5 l0_5.length c0_5]] w fun e w' => ∃ v3_ v4_ v5_ : Value, e = .returned (.agg #[.int .i64 r1, .int .i64 r2, .int .i64 r3, v3_, v4_, v5_]) ∧ Kd.R (Kd.int .u8) 5 w' w.heap.size (fun _ => True) v3_ r4 ∧ Kd.R k91 91 w' w.heap.size (fun _ => True) v4_ r5 ∧ Kd.R k87 87 w' w.heap.size (fun _ => True) v5_ r6 ∧ Below w.heap.size w w' := by
 have hu64 := Tryd.underlying64
 have HR0_3 := Aside0.mk hr0_3
 have HC0_3 := Aside0.mk hc0_3
 clear hr0_3 hc0_3
 have HR0_4 := Aside0.mk hr0_4
 have HC0_4 := Aside0.mk hc0_4
 clear hr0_4 hc0_4
 have HR0_5 := Aside0.mk hr0_5
 have HC0_5 := Aside0.mk hc0_5
 clear hr0_5 hc0_5
 have HB := Aside0.mk (Below.refl w.heap.size w)
 unfold impl_copyInode.f at h
 have H := h
 clear h
 replace H := bA H
 obtain ⟨t336, A2, H⟩ := H
 try dsimp only at H
 replace H := bA H
 obtain ⟨t339, A3, H⟩ := H
 try dsimp only at H
 replace H := bA H
 obtain ⟨t342, A4, H⟩ := H
 try dsimp only at H
 simp only [Option.some.injEq, Prod.mk.injEq] at H
 obtain ⟨rfl, rfl, rfl, rfl, rfl, rfl⟩ := H
 go_enter Tryd.func93, Tryd.ntmps93
 go_wp2_with (first | ((with_reducible refine gate_dst (N := 1) rfl ?_); refine bx_ 1 #[.int .i64 a0_0, .int .i64 a0_1, .int .i64 a0_2, .slice A0_3 l0_3.length c0_3, .slice A0_4 l0_4.length c0_4, .slice A0_5 l0_5.length c0_5] 64 ?_; intro gb334 hg w5 hbox hb; have BK334 := Aside0.mk (hbox); have GW334 := gs_ hg; have GE334 := gs_ hg; replace HB := Aside0.mk (below_step oB hb); clear hb hbox hg) | ((with_reducible refine gate_dst (N := 2) rfl ?_); refine bx_ 2 #[.int .i64 0, .int .i64 0, .int .i64 0, .slice none 0 0, .slice none 0 0, .slice none 0 0] 64 ?_; intro gb335 hg w6 hbox hb; have BK335 := Aside0.mk (hbox); have GW335 := gs_ hg; have GE335 := gs_ hg; have NB334_335 := nl_ hg BK334; have NB335_334 := nr_ hg BK334; replace BK334 := kb_ BK334 hb; replace HB := Aside0.mk (below_step oB hb); clear hb hbox hg; have hnb7 := NB334_335.out; have hnc7 := NB335_334.out; obtain ⟨⟨_, _, _, _, _, _⟩, _, _, _, _, _, _⟩ := z6 BK334) | ((with_reducible refine gate_callee (f := 70) rfl ?_); refine gl_ 5 Tryd.func70 (slices_Clone_byte_byte.calls _ _ l0_3 t336 _ (kC HR0_3) HC0_3.out A2.out) ?_; rintro e w9 ⟨v337, rfl, ho0, hb⟩; refine ⟨_, rfl, ?_⟩; have HO338 := Aside0.mk (Kd.R_lower ho0 (below_size oB)); replace BK334 := kb_ BK334 hb; replace BK335 := kb_ BK335 hb; replace HB := Aside0.mk (below_step oB hb); obtain ⟨Ao10, co10, eo10⟩ := Kd.R_slice HO338.out; subst eo10; obtain ⟨⟨_, _, _, _, _, _⟩, _, _, _, _, _, _⟩ := z6 BK334) | ((with_reducible refine gate_callee (f := 111) rfl ?_); refine gl_ 9 Tryd.func111 (slices_Clone_Ent.calls _ _ l0_4 t339 _ ?side1 HC0_4.out A3.out) ?_; (case side1 => exact Kd.C_below HR0_4.out oB); rintro e w12 ⟨v340, rfl, ho0, hb⟩; refine ⟨_, rfl, ?_⟩; have HO341 := Aside0.mk (Kd.R_lower ho0 (below_size oB)); replace HO338 := Aside0.mk (Kd.R_below (by (with_reducible repeat (first | apply Kd.R_alloc | apply Kd.R_drewN | apply Kd.R_drew)); exact (Kd.R_mono (Kd.R_far (p := ⟨gb334, 3, none⟩) (Kd.R_types HO338.out BK334.out (by decide)) (fun _ hk => hk.2) (.slice Ao10 t336.length co10)) (fun _ h_ => h_.1))) hb); replace BK334 := Aside0.mk (blk_below (g := gb334) (o := .cells #[.int .i64 a0_0, .int .i64 a0_1, .int .i64 a0_2, .slice Ao10 t336.length co10, .slice A0_4 l0_4.length c0_4, .slice A0_5 l0_5.length c0_5] 64 (0, 0)) (by (with_reducible repeat (first | refine blk_drewN ?_ _ | refine blk_drew ?_ | refine blk_alloc ?_ _)); refine blk_put (cs := #[.int .i64 a0_0, .int .i64 a0_1, .int .i64 a0_2, .slice A0_3 l0_3.length c0_3, .slice A0_4 l0_4.length c0_4, .slice A0_5 l0_5.length c0_5]) ?_ 3 _ rfl; (with_reducible repeat (first | refine blk_drewN ?_ _ | refine blk_drew ?_ | refine blk_alloc ?_ _)); exact BK334.out) hb); replace BK335 := Aside0.mk (blk_below (g := gb335) (o := .cells #[.int .i64 0, .int .i64 0, .int .i64 0, .slice none 0 0, .slice none 0 0, .slice none 0 0] 64 (0, 0)) (by (with_reducible repeat (first | refine blk_drewN ?_ _ | refine blk_drew ?_ | refine blk_alloc ?_ _)); refine blk_far ?_ NB335_334.out _; (with_reducible repeat (first | refine blk_drewN ?_ _ | refine blk_drew ?_ | refine blk_alloc ?_ _)); exact BK335.out) hb); replace HB := Aside0.mk (below_step oB hb); (try clear hk); obtain ⟨Ao13, co13, eo13⟩ := Kd.R_slice HO341.out; subst eo13; obtain ⟨⟨_, _, _, _, _, _⟩, _, _, _, _, _, _⟩ := z6 BK334) | ((with_reducible refine gate_callee (f := 112) rfl ?_); refine gl_ 13 Tryd.func112 (slices_Clone_Attr.calls _ _ l0_5 t342 _ ?side1 HC0_5.out A4.out) ?_; (case side1 => exact Kd.C_below HR0_5.out oB); rintro e w15 ⟨v343, rfl, ho0, hb⟩; refine ⟨_, rfl, ?_⟩; have HO344 := Aside0.mk (Kd.R_lower ho0 (below_size oB)); replace HO338 := Aside0.mk (Kd.R_below (by (with_reducible repeat (first | apply Kd.R_alloc | apply Kd.R_drewN | apply Kd.R_drew)); exact (Kd.R_mono (Kd.R_far (p := ⟨gb334, 4, none⟩) (Kd.R_types HO338.out BK334.out (by decide)) (fun _ hk => hk.2) (.slice Ao13 t339.length co13)) (fun _ h_ => h_.1))) hb); replace HO341 := Aside0.mk (Kd.R_below (by (with_reducible repeat (first | apply Kd.R_alloc | apply Kd.R_drewN | apply Kd.R_drew)); exact (Kd.R_mono (Kd.R_far (p := ⟨gb334, 4, none⟩) (Kd.R_types HO341.out BK334.out (by decide)) (fun _ hk => hk.2) (.slice Ao13 t339.length co13)) (fun _ h_ => h_.1))) hb); replace BK334 := Aside0.mk (blk_below (g := gb334) (o := .cells #[.int .i64 a0_0, .int .i64 a0_1, .int .i64 a0_2, .slice Ao10 t336.length co10, .slice Ao13 t339.length co13, .slice A0_5 l0_5.length c0_5] 64 (0, 0)) (by (with_reducible repeat (first | refine blk_drewN ?_ _ | refine blk_drew ?_ | refine blk_alloc ?_ _)); refine blk_put (cs := #[.int .i64 a0_0, .int .i64 a0_1, .int .i64 a0_2, .slice Ao10 t336.length co10, .slice A0_4 l0_4.length c0_4, .slice A0_5 l0_5.length c0_5]) ?_ 4 _ rfl; (with_reducible repeat (first | refine blk_drewN ?_ _ | refine blk_drew ?_ | refine blk_alloc ?_ _)); exact BK334.out) hb); replace BK335 := Aside0.mk (blk_below (g := gb335) (o := .cells #[.int .i64 0, .int .i64 0, .int .i64 0, .slice none 0 0, .slice none 0 0, .slice none 0 0] 64 (0, 0)) (by (with_reducible repeat (first | refine blk_drewN ?_ _ | refine blk_drew ?_ | refine blk_alloc ?_ _)); refine blk_far ?_ NB335_334.out _; (with_reducible repeat (first | refine blk_drewN ?_ _ | refine blk_drew ?_ | refine blk_alloc ?_ _)); exact BK335.out) hb); replace HB := Aside0.mk (below_step oB hb); (try clear hk); obtain ⟨Ao16, co16, eo16⟩ := Kd.R_slice HO344.out; subst eo16; obtain ⟨⟨_, _, _, _, _, _⟩, _, _, _, _, _, _⟩ := z6 BK334; obtain ⟨⟨_, _, _, _, _, _⟩, _, _, _, _, _, _⟩ := z6 BK335))
 refine bodyPost_ret (results_cell_row rfl _ _ gb335 64 #[.int .i64 a0_0, .int .i64 a0_1, .int .i64 a0_2, .slice Ao10 t336.length co10, .slice Ao13 t339.length co13, .slice Ao16 t342.length co16] (0, 0) _ rfl (by (with_reducible repeat (first | refine blk_drewN ?_ _ | refine blk_drew ?_ | refine blk_alloc ?_ _)); refine blk_put (cs := #[.int .i64 a0_0, .int .i64 a0_1, .int .i64 a0_2, .slice Ao10 t336.length co10, .slice Ao13 t339.length co13, .slice none 0 0]) ?_ 5 _ rfl; (with_reducible repeat (first | refine blk_drewN ?_ _ | refine blk_drew ?_ | refine blk_alloc ?_ _)); refine blk_put (cs := #[.int .i64 a0_0, .int .i64 a0_1, .int .i64 a0_2, .slice Ao10 t336.length co10, .slice none 0 0, .slice none 0 0]) ?_ 4 _ rfl; (with_reducible repeat (first | refine blk_drewN ?_ _ | refine blk_drew ?_ | refine blk_alloc ?_ _)); refine blk_put (cs := #[.int .i64 a0_0, .int .i64 a0_1, .int .i64 a0_2, .slice none 0 0, .slice none 0 0, .slice none 0 0]) ?_ 3 _ rfl; (with_reducible repeat (first | refine blk_drewN ?_ _ | refine blk_drew ?_ | refine blk_alloc ?_ _)); refine blk_put (cs := #[.int .i64 a0_0, .int .i64 a0_1, .int .i64 0, .slice none 0 0, .slice none 0 0, .slice none 0 0]) ?_ 2 _ rfl; (with_reducible repeat (first | refine blk_drewN ?_ _ | refine blk_drew ?_ | refine blk_alloc ?_ _)); refine blk_put (cs := #[.int .i64 a0_0, .int .i64 0, .int .i64 0, .slice none 0 0, .slice none 0 0, .slice none 0 0]) ?_ 1 _ rfl; (with_reducible repeat (first | refine blk_drewN ?_ _ | refine blk_drew ?_ | refine blk_alloc ?_ _)); refine blk_put (cs := #[.int .i64 0, .int .i64 0, .int .i64 0, .slice none 0 0, .slice none 0 0, .slice none 0 0]) ?_ 0 _ rfl; (with_reducible repeat (first | refine blk_drewN ?_ _ | refine blk_drew ?_ | refine blk_alloc ?_ _)); refine blk_far ?_ NB335_334.out _; (with_reducible repeat (first | refine blk_drewN ?_ _ | refine blk_drew ?_ | refine blk_alloc ?_ _)); exact BK335.out) Tryd.underlying64 rfl (by kernel_rfl)) rfl ?_
 exact ⟨_, _, _, oE, by (with_reducible repeat (first | apply Kd.R_alloc | apply Kd.R_drewN | apply Kd.R_drew)); exact Kd.R_mono (Kd.R_far (p := ⟨gb335, 5, none⟩) (Kd.R_far (p := ⟨gb335, 4, none⟩) (Kd.R_far (p := ⟨gb335, 3, none⟩) (Kd.R_far (p := ⟨gb335, 2, none⟩) (Kd.R_far (p := ⟨gb335, 1, none⟩) (Kd.R_far (p := ⟨gb335, 0, none⟩) (Kd.R_far (p := ⟨gb334, 5, none⟩) (Kd.R_types (Kd.R_types HO338.out BK334.out (by decide)) BK335.out (by decide)) (fun _ hk => hk.1.2) (.slice Ao16 t342.length co16)) (fun _ hk => hk.2) (.int .i64 a0_0)) (fun _ hk => hk.2) (.int .i64 a0_1)) (fun _ hk => hk.2) (.int .i64 a0_2)) (fun _ hk => hk.2) (.slice Ao10 t336.length co10)) (fun _ hk => hk.2) (.slice Ao13 t339.length co13)) (fun _ hk => hk.2) (.slice Ao16 t342.length co16)) (fun _ hk => trivial), by (with_reducible repeat (first | apply Kd.R_alloc | apply Kd.R_drewN | apply Kd.R_drew)); exact Kd.R_mono (Kd.R_far (p := ⟨gb335, 5, none⟩) (Kd.R_far (p := ⟨gb335, 4, none⟩) (Kd.R_far (p := ⟨gb335, 3, none⟩) (Kd.R_far (p := ⟨gb335, 2, none⟩) (Kd.R_far (p := ⟨gb335, 1, none⟩) (Kd.R_far (p := ⟨gb335, 0, none⟩) (Kd.R_far (p := ⟨gb334, 5, none⟩) (Kd.R_types (Kd.R_types HO341.out BK334.out (by decide)) BK335.out (by decide)) (fun _ hk => hk.1.2) (.slice Ao16 t342.length co16)) (fun _ hk => hk.2) (.int .i64 a0_0)) (fun _ hk => hk.2) (.int .i64 a0_1)) (fun _ hk => hk.2) (.int .i64 a0_2)) (fun _ hk => hk.2) (.slice Ao10 t336.length co10)) (fun _ hk => hk.2) (.slice Ao13 t339.length co13)) (fun _ hk => hk.2) (.slice Ao16 t342.length co16)) (fun _ hk => trivial), by (with_reducible repeat (first | apply Kd.R_alloc | apply Kd.R_drewN | apply Kd.R_drew)); exact Kd.R_mono (Kd.R_far (p := ⟨gb335, 5, none⟩) (Kd.R_far (p := ⟨gb335, 4, none⟩) (Kd.R_far (p := ⟨gb335, 3, none⟩) (Kd.R_far (p := ⟨gb335, 2, none⟩) (Kd.R_far (p := ⟨gb335, 1, none⟩) (Kd.R_far (p := ⟨gb335, 0, none⟩) (Kd.R_far (p := ⟨gb334, 5, none⟩) (Kd.R_types (Kd.R_types HO344.out BK334.out (by decide)) BK335.out (by decide)) (fun _ hk => hk.1.2) (.slice Ao16 t342.length co16)) (fun _ hk => hk.2) (.int .i64 a0_0)) (fun _ hk => hk.2) (.int .i64 a0_1)) (fun _ hk => hk.2) (.int .i64 a0_2)) (fun _ hk => hk.2) (.slice Ao10 t336.length co10)) (fun _ hk => hk.2) (.slice Ao13 t339.length co13)) (fun _ hk => hk.2) (.slice Ao16 t342.length co16)) (fun _ hk => trivial), oB⟩

/-! ### impl_InodeAt: function 67 -/
def impl_InodeAt.f (k : Nat) (l0_0 : List (S64)) (a0_1 : Int) (a1 : Int) : Option (Int × Int × Int × List Int × (List (S91)) × (List (S87)) × Bool) := (impl_placeOf.f k l0_0 a0_1 a1).bind fun t347 => (if t347 < 0 then (some (0, 0, 0, ([] : List Int), ([] : List (S91)), ([] : List (S87)), false)) else (if 0 ≤ t347 then (if t347 < (l0_0.length : Int) then ((impl_copyInode.f ((rd_T64 l0_0 t347).f0) ((rd_T64 l0_0 t347).f1) ((rd_T64 l0_0 t347).f2) ((rd_T64 l0_0 t347).f3) ((rd_T64 l0_0 t347).f4) ((rd_T64 l0_0 t347).f5)).bind fun bt349 => (some (bt349.1, bt349.2.1, bt349.2.2.1, bt349.2.2.2.1, bt349.2.2.2.2.1, bt349.2.2.2.2.2, true))) else (none)) else (none)))
set_option maxHeartbeats 8000000 in
set_option maxRecDepth 100000 in
theorem impl_InodeAt.calls (k : Nat) (A0_0 : Option Addr) (c0_0 : Nat) (l0_0 : List (S64)) (a0_1 : Int) (a1 : Int) (r1 : Int) (r2 : Int) (r3 : Int) (r4 : List Int) (r5 : List (S91)) (r6 : List (S87)) (r7 : Bool) (w : World) (hr0_0 : Kd.C k64 w A0_0 l0_0.length l0_0) (hc0_0 : l0_0.length ≤ c0_0) (h : impl_InodeAt.f k l0_0 a0_1 a1 = some (r1, r2, r3, r4, r5, r6, r7)) :
  Calls Tryd.prog 67 #[.agg #[.slice A0_0 l0_0.length c0_0, .int .i64 a0_1], .int .i64 a1] w fun e w' => ∃ v3_ v4_ v5_ : Value, e = .returned (.tuple #[.agg #[.int .i64 r1, .int .i64 r2, .int .i64 r3, v3_, v4_, v5_], .bool r7]) ∧ Kd.R (Kd.int .u8) 5 w' w.heap.size (fun _ => True) v3_ r4 ∧ Kd.R k91 91 w' w.heap.size (fun _ => True) v4_ r5 ∧ Kd.R k87 87 w' w.heap.size (fun _ => True) v5_ r6 ∧ Below w.heap.size w w' := by
 have hu46 := Tryd.underlying46
 have hu64 := Tryd.underlying64
 have HR0_0 := Aside0.mk hr0_0
 have HC0_0 := Aside0.mk hc0_0
 clear hr0_0 hc0_0
 have HB := Aside0.mk (Below.refl w.heap.size w)
 unfold impl_InodeAt.f at h
 have H := h
 clear h
 replace H := bA H
 obtain ⟨t347, A3, H⟩ := H
 try dsimp only at H
 replace H := itD H
 rcases H with ⟨c4b0, H⟩ | ⟨c4b0, H⟩
 ·simp only [Option.some.injEq, Prod.mk.injEq] at H
  obtain ⟨rfl, rfl, rfl, rfl, rfl, rfl, rfl⟩ := H
  go_enter Tryd.func67, Tryd.ntmps67
  go_wp2_with (first | ((with_reducible refine gate_dst (N := 2) rfl ?_); refine bx_ 2 #[.slice A0_0 l0_0.length c0_0, .int .i64 a0_1] 46 ?_; intro gb345 hg w5 hbox hb; have BK345 := Aside0.mk (hbox); have GW345 := gs_ hg; have GE345 := gs_ hg; replace HB := Aside0.mk (below_step oB hb); clear hb hbox hg) | ((with_reducible refine gate_dst (N := 4) rfl ?_); refine bx_ 4 #[.int .i64 0, .int .i64 0, .int .i64 0, .slice none 0 0, .slice none 0 0, .slice none 0 0] 64 ?_; intro gb346 hg w6 hbox hb; have BK346 := Aside0.mk (hbox); have GW346 := gs_ hg; have GE346 := gs_ hg; have NB345_346 := nl_ hg BK345; have NB346_345 := nr_ hg BK345; replace BK345 := kb_ BK345 hb; replace HB := Aside0.mk (below_step oB hb); clear hb hbox hg; have hnb7 := NB345_346.out; have hnc7 := NB346_345.out; obtain ⟨⟨_, _⟩, _, _⟩ := z2 BK345) | ((with_reducible refine gate_callee (f := 92) rfl ?_); refine gl_ 9 Tryd.func92 (impl_placeOf.calls k _ _ l0_0 a0_1 a1 t347 _ (kC HR0_0) HC0_0.out A3.out) ?_; rintro e w9 ⟨rfl, hb⟩; refine ⟨_, rfl, ?_⟩; replace BK345 := kb_ BK345 hb; replace BK346 := kb_ BK346 hb; replace HB := Aside0.mk (below_step oB hb); obtain ⟨⟨_, _, _, _, _, _⟩, _, _, _, _, _, _⟩ := z6 BK346))
  refine bodyPost_ret (results_ct rfl _ _ gb346 64 #[.int .i64 0, .int .i64 0, .int .i64 0, .slice none 0 0, .slice none 0 0, .slice none 0 0] (0, 0) _ rfl (by (with_reducible repeat (first | refine blk_drewN ?_ _ | refine blk_drew ?_ | refine blk_alloc ?_ _)); refine blk_put (cs := #[.int .i64 0, .int .i64 0, .int .i64 0, .slice none 0 0, .slice none 0 0, .slice none 0 0]) ?_ 5 _ rfl; (with_reducible repeat (first | refine blk_drewN ?_ _ | refine blk_drew ?_ | refine blk_alloc ?_ _)); refine blk_put (cs := #[.int .i64 0, .int .i64 0, .int .i64 0, .slice none 0 0, .slice none 0 0, .slice none 0 0]) ?_ 4 _ rfl; (with_reducible repeat (first | refine blk_drewN ?_ _ | refine blk_drew ?_ | refine blk_alloc ?_ _)); refine blk_put (cs := #[.int .i64 0, .int .i64 0, .int .i64 0, .slice none 0 0, .slice none 0 0, .slice none 0 0]) ?_ 3 _ rfl; (with_reducible repeat (first | refine blk_drewN ?_ _ | refine blk_drew ?_ | refine blk_alloc ?_ _)); refine blk_put (cs := #[.int .i64 0, .int .i64 0, .int .i64 0, .slice none 0 0, .slice none 0 0, .slice none 0 0]) ?_ 2 _ rfl; (with_reducible repeat (first | refine blk_drewN ?_ _ | refine blk_drew ?_ | refine blk_alloc ?_ _)); refine blk_put (cs := #[.int .i64 0, .int .i64 0, .int .i64 0, .slice none 0 0, .slice none 0 0, .slice none 0 0]) ?_ 1 _ rfl; (with_reducible repeat (first | refine blk_drewN ?_ _ | refine blk_drew ?_ | refine blk_alloc ?_ _)); refine blk_put (cs := #[.int .i64 0, .int .i64 0, .int .i64 0, .slice none 0 0, .slice none 0 0, .slice none 0 0]) ?_ 0 _ rfl; (with_reducible repeat (first | refine blk_drewN ?_ _ | refine blk_drew ?_ | refine blk_alloc ?_ _)); exact BK346.out) Tryd.underlying64 rfl (by kernel_rfl)) rfl ?_
  exact ⟨_, _, _, oE, by first | exact Kd.R_nil _ _ _ _ _ | exact Kd.N_nil _ _ _ _ _ | exact Kd.V_nil _ _ _ _ _ | exact Kd.Q_nil _ _ _ _ _ | exact Kd.S_nil _ _ _ _ _, by first | exact Kd.R_nil _ _ _ _ _ | exact Kd.N_nil _ _ _ _ _ | exact Kd.V_nil _ _ _ _ _ | exact Kd.Q_nil _ _ _ _ _ | exact Kd.S_nil _ _ _ _ _, by first | exact Kd.R_nil _ _ _ _ _ | exact Kd.N_nil _ _ _ _ _ | exact Kd.V_nil _ _ _ _ _ | exact Kd.Q_nil _ _ _ _ _ | exact Kd.S_nil _ _ _ _ _, oB⟩
 ·replace H := itD H
  rcases H with ⟨c11b0, H⟩ | ⟨c11b0, H⟩
  ·replace H := itD H
   rcases H with ⟨c12b0, H⟩ | ⟨c12b0, H⟩
   ·replace H := bA H
    obtain ⟨⟨t349, t350, t351, t352, t355, t358⟩, A13, H⟩ := H
    try dsimp only at H
    simp only [Option.some.injEq, Prod.mk.injEq] at H
    obtain ⟨rfl, rfl, rfl, rfl, rfl, rfl, rfl⟩ := H
    go_enter Tryd.func67, Tryd.ntmps67
    go_wp2_with (first | ((with_reducible refine gate_dst (N := 2) rfl ?_); refine bx_ 2 #[.slice A0_0 l0_0.length c0_0, .int .i64 a0_1] 46 ?_; intro gb345 hg w14 hbox hb; have BK345 := Aside0.mk (hbox); have GW345 := gs_ hg; have GE345 := gs_ hg; replace HB := Aside0.mk (below_step oB hb); clear hb hbox hg) | ((with_reducible refine gate_dst (N := 4) rfl ?_); refine bx_ 4 #[.int .i64 0, .int .i64 0, .int .i64 0, .slice none 0 0, .slice none 0 0, .slice none 0 0] 64 ?_; intro gb346 hg w15 hbox hb; have BK346 := Aside0.mk (hbox); have GW346 := gs_ hg; have GE346 := gs_ hg; have NB345_346 := nl_ hg BK345; have NB346_345 := nr_ hg BK345; replace BK345 := kb_ BK345 hb; replace HB := Aside0.mk (below_step oB hb); clear hb hbox hg; have hnb16 := NB345_346.out; have hnc16 := NB346_345.out; obtain ⟨⟨_, _⟩, _, _⟩ := z2 BK345) | ((with_reducible refine gate_callee (f := 92) rfl ?_); refine gl_ 9 Tryd.func92 (impl_placeOf.calls k _ _ l0_0 a0_1 a1 t347 _ (kC HR0_0) HC0_0.out A3.out) ?_; rintro e w18 ⟨rfl, hb⟩; refine ⟨_, rfl, ?_⟩; replace BK345 := kb_ BK345 hb; replace BK346 := kb_ BK346 hb; replace HB := Aside0.mk (below_step oB hb); obtain ⟨⟨_, _⟩, _, _⟩ := z2 BK345; have p348 : (0 ≤ (t347 : Int)) = True := oT; have q348 : (t347 < (l0_0.length : Int)) = True := oT; obtain ⟨ad348, A348_3, c348_3, A348_4, c348_4, A348_5, c348_5, e348, hx348_0, hx348_1, hx348_2, hx348_3, hx348_4, hx348_5, hl348_3, hi348_3, hl348_4, hi348_4, hl348_5, hi348_5⟩ := at_T64 HR0_0.out t347 oa oa; cases e348; replace hx348_0 := cB HB hx348_0; replace hx348_1 := cB HB hx348_1; replace hx348_2 := cB HB hx348_2; replace hx348_3 := cB HB hx348_3; replace hx348_4 := cB HB hx348_4; replace hx348_5 := cB HB hx348_5; have HR348_3 := Aside0.mk hi348_3; have HC348_3 := Aside0.mk hl348_3; clear hi348_3 hl348_3; have HR348_4 := Aside0.mk hi348_4; have HC348_4 := Aside0.mk hl348_4; clear hi348_4 hl348_4; have HR348_5 := Aside0.mk hi348_5; have HC348_5 := Aside0.mk hl348_5; clear hi348_5 hl348_5) | ((with_reducible refine gate_callee (f := 93) rfl ?_); refine gl_ 18 Tryd.func93 (impl_copyInode.calls ((rd_T64 l0_0 t347).f0) ((rd_T64 l0_0 t347).f1) ((rd_T64 l0_0 t347).f2) _ _ ((rd_T64 l0_0 t347).f3) _ _ ((rd_T64 l0_0 t347).f4) _ _ ((rd_T64 l0_0 t347).f5) t349 t350 t351 t352 t355 t358 _ (kC HR348_3) HC348_3.out (kC HR348_4) HC348_4.out (kC HR348_5) HC348_5.out A13.out) ?_; rintro e w20 ⟨v353, v356, v359, rfl, ho0, ho1, ho2, hb⟩; refine ⟨_, rfl, ?_⟩; have HO354 := Aside0.mk (Kd.R_lower ho0 (below_size oB)); have HO357 := Aside0.mk (Kd.R_lower ho1 (below_size oB)); have HO360 := Aside0.mk (Kd.R_lower ho2 (below_size oB)); replace BK345 := kb_ BK345 hb; replace BK346 := kb_ BK346 hb; replace HB := Aside0.mk (below_step oB hb); (try clear ho1); (try clear ho2); obtain ⟨⟨_, _, _, _, _, _⟩, _, _, _, _, _, _⟩ := z6 BK346; obtain ⟨Ao22, co22, eo22⟩ := Kd.R_slice HO354.out; subst eo22; obtain ⟨Ao23, co23, eo23⟩ := Kd.R_slice HO357.out; subst eo23; obtain ⟨Ao24, co24, eo24⟩ := Kd.R_slice HO360.out; subst eo24))
    refine bodyPost_ret (results_ct rfl _ _ gb346 64 #[.int .i64 t349, .int .i64 t350, .int .i64 t351, .slice Ao22 t352.length co22, .slice Ao23 t355.length co23, .slice Ao24 t358.length co24] (0, 0) _ rfl (by (with_reducible repeat (first | refine blk_drewN ?_ _ | refine blk_drew ?_ | refine blk_alloc ?_ _)); refine blk_put (cs := #[.int .i64 t349, .int .i64 t350, .int .i64 t351, .slice Ao22 t352.length co22, .slice Ao23 t355.length co23, .slice none 0 0]) ?_ 5 _ rfl; (with_reducible repeat (first | refine blk_drewN ?_ _ | refine blk_drew ?_ | refine blk_alloc ?_ _)); refine blk_put (cs := #[.int .i64 t349, .int .i64 t350, .int .i64 t351, .slice Ao22 t352.length co22, .slice none 0 0, .slice none 0 0]) ?_ 4 _ rfl; (with_reducible repeat (first | refine blk_drewN ?_ _ | refine blk_drew ?_ | refine blk_alloc ?_ _)); refine blk_put (cs := #[.int .i64 t349, .int .i64 t350, .int .i64 t351, .slice none 0 0, .slice none 0 0, .slice none 0 0]) ?_ 3 _ rfl; (with_reducible repeat (first | refine blk_drewN ?_ _ | refine blk_drew ?_ | refine blk_alloc ?_ _)); refine blk_put (cs := #[.int .i64 t349, .int .i64 t350, .int .i64 0, .slice none 0 0, .slice none 0 0, .slice none 0 0]) ?_ 2 _ rfl; (with_reducible repeat (first | refine blk_drewN ?_ _ | refine blk_drew ?_ | refine blk_alloc ?_ _)); refine blk_put (cs := #[.int .i64 t349, .int .i64 0, .int .i64 0, .slice none 0 0, .slice none 0 0, .slice none 0 0]) ?_ 1 _ rfl; (with_reducible repeat (first | refine blk_drewN ?_ _ | refine blk_drew ?_ | refine blk_alloc ?_ _)); refine blk_put (cs := #[.int .i64 0, .int .i64 0, .int .i64 0, .slice none 0 0, .slice none 0 0, .slice none 0 0]) ?_ 0 _ rfl; (with_reducible repeat (first | refine blk_drewN ?_ _ | refine blk_drew ?_ | refine blk_alloc ?_ _)); exact BK346.out) Tryd.underlying64 rfl (by kernel_rfl)) rfl ?_
    exact ⟨_, _, _, oE, by (with_reducible repeat (first | apply Kd.R_alloc | apply Kd.R_drewN | apply Kd.R_drew)); exact Kd.R_mono (Kd.R_far (p := ⟨gb346, 5, none⟩) (Kd.R_far (p := ⟨gb346, 4, none⟩) (Kd.R_far (p := ⟨gb346, 3, none⟩) (Kd.R_far (p := ⟨gb346, 2, none⟩) (Kd.R_far (p := ⟨gb346, 1, none⟩) (Kd.R_far (p := ⟨gb346, 0, none⟩) (Kd.R_types HO354.out BK346.out (by decide)) (fun _ hk => hk.2) (.int .i64 t349)) (fun _ hk => hk.2) (.int .i64 t350)) (fun _ hk => hk.2) (.int .i64 t351)) (fun _ hk => hk.2) (.slice Ao22 t352.length co22)) (fun _ hk => hk.2) (.slice Ao23 t355.length co23)) (fun _ hk => hk.2) (.slice Ao24 t358.length co24)) (fun _ hk => trivial), by (with_reducible repeat (first | apply Kd.R_alloc | apply Kd.R_drewN | apply Kd.R_drew)); exact Kd.R_mono (Kd.R_far (p := ⟨gb346, 5, none⟩) (Kd.R_far (p := ⟨gb346, 4, none⟩) (Kd.R_far (p := ⟨gb346, 3, none⟩) (Kd.R_far (p := ⟨gb346, 2, none⟩) (Kd.R_far (p := ⟨gb346, 1, none⟩) (Kd.R_far (p := ⟨gb346, 0, none⟩) (Kd.R_types HO357.out BK346.out (by decide)) (fun _ hk => hk.2) (.int .i64 t349)) (fun _ hk => hk.2) (.int .i64 t350)) (fun _ hk => hk.2) (.int .i64 t351)) (fun _ hk => hk.2) (.slice Ao22 t352.length co22)) (fun _ hk => hk.2) (.slice Ao23 t355.length co23)) (fun _ hk => hk.2) (.slice Ao24 t358.length co24)) (fun _ hk => trivial), by (with_reducible repeat (first | apply Kd.R_alloc | apply Kd.R_drewN | apply Kd.R_drew)); exact Kd.R_mono (Kd.R_far (p := ⟨gb346, 5, none⟩) (Kd.R_far (p := ⟨gb346, 4, none⟩) (Kd.R_far (p := ⟨gb346, 3, none⟩) (Kd.R_far (p := ⟨gb346, 2, none⟩) (Kd.R_far (p := ⟨gb346, 1, none⟩) (Kd.R_far (p := ⟨gb346, 0, none⟩) (Kd.R_types HO360.out BK346.out (by decide)) (fun _ hk => hk.2) (.int .i64 t349)) (fun _ hk => hk.2) (.int .i64 t350)) (fun _ hk => hk.2) (.int .i64 t351)) (fun _ hk => hk.2) (.slice Ao22 t352.length co22)) (fun _ hk => hk.2) (.slice Ao23 t355.length co23)) (fun _ hk => hk.2) (.slice Ao24 t358.length co24)) (fun _ hk => trivial), oB⟩
   ·cases H
  ·cases H

/-! ### impl_EntOf: function 68 -/
def impl_EntOf.l0 : Nat → ByteArray → List (S91) → Int → Int → Option (Int)
 | 0, _, _, _, _ => none
 | k + 1, x1, x8, x9, x10 => if x10 < x9 then (if 0 ≤ x10 then (if x10 < (x8.length : Int) then (if ((rd_T91 x8 x10).f0).toList = x1.toList then (some ((rd_T91 x8 x10).f1)) else (impl_EntOf.l0 k x1 x8 x9 (wrap64 (x10 + 1)))) else (none)) else (none)) else (some 0)
def impl_EntOf.f (k : Nat) (a0_0 : Int) (a0_1 : Int) (a0_2 : Int) (l0_3 : List Int) (l0_4 : List (S91)) (l0_5 : List (S87)) (a1 : ByteArray) : Option (Int) := impl_EntOf.l0 k a1 l0_4 (l0_4.length : Int) 0
set_option maxHeartbeats 8000000 in
set_option maxRecDepth 100000 in
theorem impl_EntOf.calls (k : Nat) (a0_0 : Int) (a0_1 : Int) (a0_2 : Int) (A0_3 : Option Addr) (c0_3 : Nat) (l0_3 : List Int) (A0_4 : Option Addr) (c0_4 : Nat) (l0_4 : List (S91)) (A0_5 : Option Addr) (c0_5 : Nat) (l0_5 : List (S87)) (a1 : ByteArray) (r : Int) (w : World) (hr0_3 : Kd.C (Kd.int .u8) w A0_3 l0_3.length l0_3) (hc0_3 : l0_3.length ≤ c0_3) (hr0_4 : Kd.C k91 w A0_4 l0_4.length l0_4) (hc0_4 : l0_4.length ≤ c0_4) (hr0_5 : Kd.C k87 w A0_5 l0_5.length l0_5) (hc0_5 : l0_5.length ≤ c0_5) (h : impl_EntOf.f k a0_0 a0_1 a0_2 l0_3 l0_4 l0_5 a1 = some r) :
  Calls Tryd.prog 68 #[.agg #[.int .i64 a0_0, .int .i64 a0_1, .int .i64 a0_2, .slice A0_3 l0_3.length c0_3, .slice A0_4 l0_4.length c0_4, .slice A0_5 l0_5.length c0_5], .string a1] w fun e w' => e = .returned (.int .i64 r) ∧ Below w.heap.size w w' := by
 have hu64 := Tryd.underlying64
 have hu91 := Tryd.underlying91
 have HR0_3 := Aside0.mk hr0_3
 have HC0_3 := Aside0.mk hc0_3
 clear hr0_3 hc0_3
 have HR0_4 := Aside0.mk hr0_4
 have HC0_4 := Aside0.mk hc0_4
 clear hr0_4 hc0_4
 have HR0_5 := Aside0.mk hr0_5
 have HC0_5 := Aside0.mk hc0_5
 clear hr0_5 hc0_5
 have HB := Aside0.mk (Below.refl w.heap.size w)
 unfold impl_EntOf.f at h
 have H := h
 clear h
 have H' := Aside0.mk H
 clear H
 go_enter Tryd.func68, Tryd.ntmps68
 go_wp2_with (first | ((with_reducible refine gate_dst (N := 2) rfl ?_); refine bx_ 2 #[.int .i64 a0_0, .int .i64 a0_1, .int .i64 a0_2, .slice A0_3 l0_3.length c0_3, .slice A0_4 l0_4.length c0_4, .slice A0_5 l0_5.length c0_5] 64 ?_; intro gb361 hg w3 hbox hb; have BK361 := Aside0.mk (hbox); have GW361 := gs_ hg; have GE361 := gs_ hg; replace HB := Aside0.mk (below_step oB hb); clear hb hbox hg; obtain ⟨⟨_, _, _, _, _, _⟩, _, _, _, _, _, _⟩ := z6 BK361))
 go_loopg [10] k (fun kq v10 w' => ∃ (x10_1 : Int), v10 = .int .i64 x10_1 ∧ Aside0 (impl_EntOf.l0 kq a1 l0_4 (l0_4.length : Int) x10_1 = some r) ∧ Aside0 (kq ≤ k) ∧ Aside0 (w'.heap[gb361]? = some (.cells #[.int .i64 a0_0, .int .i64 a0_1, .int .i64 a0_2, (.slice A0_3 l0_3.length c0_3), (.slice A0_4 l0_4.length c0_4), (.slice A0_5 l0_5.length c0_5)] 64 (0, 0))) ∧ Aside0 (Below w.heap.size w w'))
 case atStart => exact ⟨(0), oS, H', ⟨Nat.le_refl _⟩, ⟨oF BK361⟩, ⟨oB⟩⟩
 case round =>
  clear H'
  obtain ⟨x10_1, rfl, HA, HK1, BK361, HB⟩ := hrel
  cases gk with
  | zero => exact absurd HA.out (by simp [impl_EntOf.l0])
  | succ k1 =>
   have H := HA.out
   clear HA
   simp only [impl_EntOf.l0] at H
   replace H := itD H
   rcases H with ⟨c5b0, H⟩ | ⟨c5b0, H⟩
   ·replace H := itD H
    rcases H with ⟨c6b0, H⟩ | ⟨c6b0, H⟩
    ·replace H := itD H
     rcases H with ⟨c7b0, H⟩ | ⟨c7b0, H⟩
     ·by_cases c8 : ((rd_T91 l0_4 x10_1).f0).toList = a1.toList
      ·rw [if_pos c8] at H
       have c8b0 : (((rd_T91 l0_4 x10_1).f0).toList == a1.toList) = true := beq_iff_eq.mpr c8
       have c8b1 : (((rd_T91 l0_4 x10_1).f0).toList != a1.toList) = false := bne_eq_false_iff_eq.mpr c8
       clear c8
       obtain rfl := Option.some.inj H
       have p362 : (0 ≤ (x10_1 : Int)) = True := oT
       have q362 : (x10_1 < (l0_4.length : Int)) = True := oT
       obtain ⟨ad362, e362, hx362_0, hx362_1⟩ := at_T91 HR0_4.out x10_1 oa oa
       cases e362
       replace hx362_0 := cB HB hx362_0
       replace hx362_1 := cB HB hx362_1
       go_wp2_with (first | ((with_reducible refine gate_dst (N := 6) rfl ?_); refine bx_ 6 #[.string (⟨#[]⟩ : ByteArray), .int .i64 0] 91 ?_; intro gb363 hg w9 hbox hb; have BK363 := Aside0.mk (hbox); have GW363 := gs_ hg; have GE363 := gs_ hg; have NB361_363 := nl_ hg BK361; have NB363_361 := nr_ hg BK361; replace BK361 := kb_ BK361 hb; replace HB := Aside0.mk (below_step oB hb); clear hb hbox hg; have hnb10 := NB363_361.out; have hnc10 := NB361_363.out; obtain ⟨⟨_, _⟩, _, _⟩ := z2 BK363))
       go_ret
       exact ⟨oE, oB⟩
      ·rw [if_neg c8] at H
       have c8b0 : (((rd_T91 l0_4 x10_1).f0).toList == a1.toList) = false := beq_eq_false_iff_ne.mpr c8
       have c8b1 : (((rd_T91 l0_4 x10_1).f0).toList != a1.toList) = true := bne_iff_ne.mpr c8
       have H' := Aside0.mk H
       clear H
       have p362 : (0 ≤ (x10_1 : Int)) = True := oT
       have q362 : (x10_1 < (l0_4.length : Int)) = True := oT
       obtain ⟨ad362, e362, hx362_0, hx362_1⟩ := at_T91 HR0_4.out x10_1 oa oa
       cases e362
       replace hx362_0 := cB HB hx362_0
       replace hx362_1 := cB HB hx362_1
       go_wp2_with (first | ((with_reducible refine gate_dst (N := 6) rfl ?_); refine bx_ 6 #[.string (⟨#[]⟩ : ByteArray), .int .i64 0] 91 ?_; intro gb363 hg w12 hbox hb; have BK363 := Aside0.mk (hbox); have GW363 := gs_ hg; have GE363 := gs_ hg; have NB361_363 := nl_ hg BK361; have NB363_361 := nr_ hg BK361; replace BK361 := kb_ BK361 hb; replace HB := Aside0.mk (below_step oB hb); clear hb hbox hg; have hnb13 := NB363_361.out; have hnc13 := NB361_363.out; obtain ⟨⟨_, _⟩, _, _⟩ := z2 BK363))
       go_roundg k1
       case measure => have := HK1.out; omega
       case rel => exact ⟨(wrap64 (x10_1 + 1)), oS, H', ⟨by have := HK1.out; omega⟩, ⟨by (with_reducible repeat (first | refine blk_drewN ?_ _ | refine blk_drew ?_ | refine blk_alloc ?_ _)); refine blk_far ?_ NB361_363.out _; (with_reducible repeat (first | refine blk_drewN ?_ _ | refine blk_drew ?_ | refine blk_alloc ?_ _)); refine blk_far ?_ NB361_363.out _; (with_reducible repeat (first | refine blk_drewN ?_ _ | refine blk_drew ?_ | refine blk_alloc ?_ _)); exact BK361.out⟩, ⟨oB⟩⟩
     ·cases H
    ·cases H
   ·obtain rfl := Option.some.inj H
    go_wp2
    go_ret
    exact ⟨oE, oB⟩

/-! ### impl_Walk: function 35 -/
def impl_Walk.l0 : Nat → Int → List ByteArray → Int → Int → List (S64) → Int → Option (Int × Int)
 | 0, _, _, _, _, _, _ => none
 | k + 1, x8, x20, x21, x22, x365000, x365001 => if x22 < x21 then (if 0 ≤ x22 then (if x22 < (x20.length : Int) then ((impl_InodeAt.f k x365000 x365001 x8).bind fun bt370 => (if bt370.2.2.2.2.2.2 = true then (if bt370.2.1 = 2 then ((impl_EntOf.f k bt370.1 bt370.2.1 bt370.2.2.1 bt370.2.2.2.1 bt370.2.2.2.2.1 bt370.2.2.2.2.2.1 (rdOf ByteArray.empty x20 x22)).bind fun t384 => (if t384 = 0 then (some (0, 2)) else (impl_Walk.l0 k t384 x20 x21 (wrap64 (x22 + 1)) x365000 x365001))) else (some (0, 3))) else (some (0, 2)))) else (none)) else (none)) else (some (x8, 0))
def impl_Walk.f (k : Nat) (l0_0 : List (S64)) (a0_1 : Int) (a1 : ByteArray) : Option (Int × Int) := (impl_SplitPath.f k a1).bind fun bt365 => (if bt365.2 = true then (impl_Walk.l0 k 1 bt365.1 (bt365.1.length : Int) 0 l0_0 a0_1) else (some (0, 1)))
set_option maxHeartbeats 8000000 in
set_option maxRecDepth 100000 in
theorem impl_Walk.calls (k : Nat) (A0_0 : Option Addr) (c0_0 : Nat) (l0_0 : List (S64)) (a0_1 : Int) (a1 : ByteArray) (r1 : Int) (r2 : Int) (w : World) (hr0_0 : Kd.C k64 w A0_0 l0_0.length l0_0) (hc0_0 : l0_0.length ≤ c0_0) (h : impl_Walk.f k l0_0 a0_1 a1 = some (r1, r2)) (hG : GOk w := by exact gk_ oB (by first | (with_reducible assumption) | assumption)) :
  Calls Tryd.prog 35 #[.agg #[.slice A0_0 l0_0.length c0_0, .int .i64 a0_1], .string a1] w fun e w' => e = .returned (.tuple #[.int .i64 r1, .int .i64 r2]) ∧ Below w.heap.size w w' := by
 have HG := Aside0.mk hG
 clear hG
 have hu46 := Tryd.underlying46
 have hu64 := Tryd.underlying64
 have HR0_0 := Aside0.mk hr0_0
 have HC0_0 := Aside0.mk hc0_0
 clear hr0_0 hc0_0
 have HB := Aside0.mk (Below.refl w.heap.size w)
 unfold impl_Walk.f at h
 have H := h
 clear h
 replace H := bA H
 obtain ⟨⟨t365, t366⟩, A3, H⟩ := H
 try dsimp only at H
 replace H := itB H
 rcases H with ⟨rfl, H⟩ | ⟨rfl, H⟩
 ·have H' := Aside0.mk H
  clear H
  go_enter Tryd.func35, Tryd.ntmps35
  go_wp2_with (first | ((with_reducible refine gate_dst (N := 2) rfl ?_); refine bx_ 2 #[.slice A0_0 l0_0.length c0_0, .int .i64 a0_1] 46 ?_; intro gb364 hg w5 hbox hb; have BK364 := Aside0.mk (hbox); have GW364 := gs_ hg; have GE364 := gs_ hg; replace HB := Aside0.mk (below_step oB hb); clear hb hbox hg) | ((with_reducible refine gate_callee (f := 17) rfl ?_); refine gl_ 15 Tryd.func17 (impl_SplitPath.calls k a1 t365 true _ A3.out) ?_; rintro e w6 ⟨v367, rfl, ho0, hb⟩; refine ⟨_, rfl, ?_⟩; have HO368 := Aside0.mk (Kd.Q_lower ho0 (below_size oB)); replace BK364 := kb_ BK364 hb; replace HB := Aside0.mk (below_step oB hb); obtain ⟨Ao7, co7, eo7, _⟩ := Kd.Q_slice HO368.out; subst eo7))
  go_loopg [8, 22] k (fun kq v8 v22 w' => ∃ (x8_1 : Int) (x22_1 : Int), v8 = .int .i64 x8_1 ∧ v22 = .int .i64 x22_1 ∧ Aside0 (impl_Walk.l0 kq x8_1 t365 (t365.length : Int) x22_1 l0_0 a0_1 = some (r1, r2)) ∧ Aside0 (kq ≤ k) ∧ Aside0 (Kd.Q Kd.string 9 w' w.heap.size (fun _ => True) (.slice Ao7 t365.length co7) t365) ∧ Aside0 (w'.heap[gb364]? = some (.cells #[(.slice A0_0 l0_0.length c0_0), .int .i64 a0_1] 46 (0, 0))) ∧ Aside0 (Below w.heap.size w w'))
  case atStart => exact ⟨(1), (0), oS, oS, H', ⟨Nat.le_refl _⟩, ⟨by (with_reducible repeat (first | apply Kd.Q_alloc | apply Kd.Q_drewN | apply Kd.Q_drew)); exact HO368.out⟩, ⟨oF BK364⟩, ⟨oB⟩⟩
  case round =>
   clear H'
   obtain ⟨x8_1, x22_1, rfl, rfl, HA, HK1, HO_20, BK364, HB⟩ := hrel
   cases gk with
   | zero => exact absurd HA.out (by simp [impl_Walk.l0])
   | succ k1 =>
    have H := HA.out
    clear HA
    simp only [impl_Walk.l0] at H
    replace H := itD H
    rcases H with ⟨c8b0, H⟩ | ⟨c8b0, H⟩
    ·replace H := itD H
     rcases H with ⟨c9b0, H⟩ | ⟨c9b0, H⟩
     ·replace H := itD H
      rcases H with ⟨c10b0, H⟩ | ⟨c10b0, H⟩
      ·replace H := bA H
       obtain ⟨⟨t370, t371, t372, t373, t376, t379, t382⟩, A11, H⟩ := H
       try dsimp only at H
       replace H := itB H
       rcases H with ⟨rfl, H⟩ | ⟨rfl, H⟩
       ·by_cases c13 : t371 = 2
        ·rw [if_pos c13] at H
         have c13b0 : (t371 == 2) = true := beq_iff_eq.mpr c13
         have c13b1 : (t371 != 2) = false := bne_eq_false_iff_eq.mpr c13
         clear c13
         replace H := bA H
         obtain ⟨t384, A14, H⟩ := H
         try dsimp only at H
         by_cases c15 : t384 = 0
         ·rw [if_pos c15] at H
          have c15b0 : (t384 == 0) = true := beq_iff_eq.mpr c15
          have c15b1 : (t384 != 0) = false := bne_eq_false_iff_eq.mpr c15
          clear c15
          simp only [Option.some.injEq, Prod.mk.injEq] at H
          obtain ⟨rfl, rfl⟩ := H
          have p369 : (0 ≤ (x22_1 : Int)) = True := oT
          have q369 : (x22_1 < (t365.length : Int)) = True := oT
          obtain ⟨ad369, e369, hx369_0⟩ := Kd.at_string (Kd.Q_reads' HO_20.out).2.2 x22_1 oa oa
          cases e369
          obtain ⟨⟨_, _⟩, _, _⟩ := z2 BK364
          go_wp2_with (first | ((with_reducible refine gate_callee (f := 67) rfl ?_); refine gl_ 29 Tryd.func67 (impl_InodeAt.calls k1 _ _ l0_0 a0_1 x8_1 t370 t371 t372 t373 t376 t379 true _ (kC HR0_0) HC0_0.out A11.out) ?_; rintro e w17 ⟨v374, v377, v380, rfl, ho0, ho1, ho2, hb⟩; refine ⟨_, rfl, ?_⟩; have HO375 := Aside0.mk (Kd.R_lower ho0 (below_size oB)); have HO378 := Aside0.mk (Kd.R_lower ho1 (below_size oB)); have HO381 := Aside0.mk (Kd.R_lower ho2 (below_size oB)); replace HO_20 := Aside0.mk (Kd.Q_below (by (with_reducible repeat (first | apply Kd.Q_alloc | apply Kd.Q_drewN | apply Kd.Q_drew)); exact HO_20.out) hb); replace BK364 := kb_ BK364 hb; replace HB := Aside0.mk (below_step oB hb); (try clear ho1); (try clear ho2)) | ((with_reducible refine gate_dst (N := 11) rfl ?_); refine bx_ 11 #[.int .i64 0, .int .i64 0, .int .i64 0, .slice none 0 0, .slice none 0 0, .slice none 0 0] 64 ?_; intro gb383 hg w18 hbox hb; have BK383 := Aside0.mk (hbox); have GW383 := gs_ hg; have GE383 := gs_ hg; have NB364_383 := nl_ hg BK364; have NB383_364 := nr_ hg BK364; replace HO_20 := Aside0.mk (Kd.Q_below (by (with_reducible repeat (first | apply Kd.Q_alloc | apply Kd.Q_drewN | apply Kd.Q_drew)); exact HO_20.out) hb); replace HO375 := kr_ HO375 hb; replace HO378 := kr_ HO378 hb; replace HO381 := kr_ HO381 hb; replace BK364 := kb_ BK364 hb; replace HB := Aside0.mk (below_step oB hb); clear hb hbox hg; have hnb19 := NB383_364.out; have hnc19 := NB364_383.out; obtain ⟨⟨_, _, _, _, _, _⟩, _, _, _, _, _, _⟩ := z6 BK383; obtain ⟨Ao21, co21, eo21⟩ := Kd.R_slice HO375.out; subst eo21; obtain ⟨Ao22, co22, eo22⟩ := Kd.R_slice HO378.out; subst eo22; obtain ⟨Ao23, co23, eo23⟩ := Kd.R_slice HO381.out; subst eo23) | ((with_reducible refine gate_callee (f := 68) rfl ?_); refine gl_ 41 Tryd.func68 (impl_EntOf.calls k1 t370 t371 t372 _ _ t373 _ _ t376 _ _ t379 (rdOf ByteArray.empty t365 x22_1) t384 _ ?side1 (ko HO375) ?side3 (ko HO378) ?side5 (ko HO381) A14.out) ?_; (case side1 => refine (Kd.R_reads' (e := 5) (base := w.heap.size) (ok := fun k_ => True) (n := t373.length) (c := co21) ?_).2.2; exact (by (with_reducible repeat (first | apply Kd.R_alloc | apply Kd.R_drewN | apply Kd.R_drew)); exact (Kd.R_mono (Kd.R_far (p := ⟨gb383, 5, none⟩) (Kd.R_far (p := ⟨gb383, 4, none⟩) (Kd.R_far (p := ⟨gb383, 3, none⟩) (Kd.R_far (p := ⟨gb383, 2, none⟩) (Kd.R_far (p := ⟨gb383, 1, none⟩) (Kd.R_far (p := ⟨gb383, 0, none⟩) (Kd.R_types HO375.out BK383.out (by decide)) (fun _ hk => hk.2) (.int .i64 t370)) (fun _ hk => hk.2) (.int .i64 t371)) (fun _ hk => hk.2) (.int .i64 t372)) (fun _ hk => hk.2) (.slice Ao21 t373.length co21)) (fun _ hk => hk.2) (.slice Ao22 t376.length co22)) (fun _ hk => hk.2) (.slice Ao23 t379.length co23)) (fun _ h_ => h_.1)))); (case side3 => refine (Kd.R_reads' (e := 91) (base := w.heap.size) (ok := fun k_ => True) (n := t376.length) (c := co22) ?_).2.2; exact (by (with_reducible repeat (first | apply Kd.R_alloc | apply Kd.R_drewN | apply Kd.R_drew)); exact (Kd.R_mono (Kd.R_far (p := ⟨gb383, 5, none⟩) (Kd.R_far (p := ⟨gb383, 4, none⟩) (Kd.R_far (p := ⟨gb383, 3, none⟩) (Kd.R_far (p := ⟨gb383, 2, none⟩) (Kd.R_far (p := ⟨gb383, 1, none⟩) (Kd.R_far (p := ⟨gb383, 0, none⟩) (Kd.R_types HO378.out BK383.out (by decide)) (fun _ hk => hk.2) (.int .i64 t370)) (fun _ hk => hk.2) (.int .i64 t371)) (fun _ hk => hk.2) (.int .i64 t372)) (fun _ hk => hk.2) (.slice Ao21 t373.length co21)) (fun _ hk => hk.2) (.slice Ao22 t376.length co22)) (fun _ hk => hk.2) (.slice Ao23 t379.length co23)) (fun _ h_ => h_.1)))); (case side5 => refine (Kd.R_reads' (e := 87) (base := w.heap.size) (ok := fun k_ => True) (n := t379.length) (c := co23) ?_).2.2; exact (by (with_reducible repeat (first | apply Kd.R_alloc | apply Kd.R_drewN | apply Kd.R_drew)); exact (Kd.R_mono (Kd.R_far (p := ⟨gb383, 5, none⟩) (Kd.R_far (p := ⟨gb383, 4, none⟩) (Kd.R_far (p := ⟨gb383, 3, none⟩) (Kd.R_far (p := ⟨gb383, 2, none⟩) (Kd.R_far (p := ⟨gb383, 1, none⟩) (Kd.R_far (p := ⟨gb383, 0, none⟩) (Kd.R_types HO381.out BK383.out (by decide)) (fun _ hk => hk.2) (.int .i64 t370)) (fun _ hk => hk.2) (.int .i64 t371)) (fun _ hk => hk.2) (.int .i64 t372)) (fun _ hk => hk.2) (.slice Ao21 t373.length co21)) (fun _ hk => hk.2) (.slice Ao22 t376.length co22)) (fun _ hk => hk.2) (.slice Ao23 t379.length co23)) (fun _ h_ => h_.1)))); rintro e w24 ⟨rfl, hb⟩; refine ⟨_, rfl, ?_⟩; replace HO_20 := Aside0.mk (Kd.Q_below (by (with_reducible repeat (first | apply Kd.Q_alloc | apply Kd.Q_drewN | apply Kd.Q_drew)); exact (Kd.Q_mono (Kd.Q_far (p := ⟨gb383, 5, none⟩) (Kd.Q_far (p := ⟨gb383, 4, none⟩) (Kd.Q_far (p := ⟨gb383, 3, none⟩) (Kd.Q_far (p := ⟨gb383, 2, none⟩) (Kd.Q_far (p := ⟨gb383, 1, none⟩) (Kd.Q_far (p := ⟨gb383, 0, none⟩) (Kd.Q_types HO_20.out BK383.out (by decide)) (fun _ hk => hk.2) (.int .i64 t370)) (fun _ hk => hk.2) (.int .i64 t371)) (fun _ hk => hk.2) (.int .i64 t372)) (fun _ hk => hk.2) (.slice Ao21 t373.length co21)) (fun _ hk => hk.2) (.slice Ao22 t376.length co22)) (fun _ hk => hk.2) (.slice Ao23 t379.length co23)) (fun _ h_ => h_.1))) hb); replace HO375 := Aside0.mk (Kd.R_below (by (with_reducible repeat (first | apply Kd.R_alloc | apply Kd.R_drewN | apply Kd.R_drew)); exact (Kd.R_mono (Kd.R_far (p := ⟨gb383, 5, none⟩) (Kd.R_far (p := ⟨gb383, 4, none⟩) (Kd.R_far (p := ⟨gb383, 3, none⟩) (Kd.R_far (p := ⟨gb383, 2, none⟩) (Kd.R_far (p := ⟨gb383, 1, none⟩) (Kd.R_far (p := ⟨gb383, 0, none⟩) (Kd.R_types HO375.out BK383.out (by decide)) (fun _ hk => hk.2) (.int .i64 t370)) (fun _ hk => hk.2) (.int .i64 t371)) (fun _ hk => hk.2) (.int .i64 t372)) (fun _ hk => hk.2) (.slice Ao21 t373.length co21)) (fun _ hk => hk.2) (.slice Ao22 t376.length co22)) (fun _ hk => hk.2) (.slice Ao23 t379.length co23)) (fun _ h_ => h_.1))) hb); replace HO378 := Aside0.mk (Kd.R_below (by (with_reducible repeat (first | apply Kd.R_alloc | apply Kd.R_drewN | apply Kd.R_drew)); exact (Kd.R_mono (Kd.R_far (p := ⟨gb383, 5, none⟩) (Kd.R_far (p := ⟨gb383, 4, none⟩) (Kd.R_far (p := ⟨gb383, 3, none⟩) (Kd.R_far (p := ⟨gb383, 2, none⟩) (Kd.R_far (p := ⟨gb383, 1, none⟩) (Kd.R_far (p := ⟨gb383, 0, none⟩) (Kd.R_types HO378.out BK383.out (by decide)) (fun _ hk => hk.2) (.int .i64 t370)) (fun _ hk => hk.2) (.int .i64 t371)) (fun _ hk => hk.2) (.int .i64 t372)) (fun _ hk => hk.2) (.slice Ao21 t373.length co21)) (fun _ hk => hk.2) (.slice Ao22 t376.length co22)) (fun _ hk => hk.2) (.slice Ao23 t379.length co23)) (fun _ h_ => h_.1))) hb); replace HO381 := Aside0.mk (Kd.R_below (by (with_reducible repeat (first | apply Kd.R_alloc | apply Kd.R_drewN | apply Kd.R_drew)); exact (Kd.R_mono (Kd.R_far (p := ⟨gb383, 5, none⟩) (Kd.R_far (p := ⟨gb383, 4, none⟩) (Kd.R_far (p := ⟨gb383, 3, none⟩) (Kd.R_far (p := ⟨gb383, 2, none⟩) (Kd.R_far (p := ⟨gb383, 1, none⟩) (Kd.R_far (p := ⟨gb383, 0, none⟩) (Kd.R_types HO381.out BK383.out (by decide)) (fun _ hk => hk.2) (.int .i64 t370)) (fun _ hk => hk.2) (.int .i64 t371)) (fun _ hk => hk.2) (.int .i64 t372)) (fun _ hk => hk.2) (.slice Ao21 t373.length co21)) (fun _ hk => hk.2) (.slice Ao22 t376.length co22)) (fun _ hk => hk.2) (.slice Ao23 t379.length co23)) (fun _ h_ => h_.1))) hb); replace BK364 := Aside0.mk (blk_below (g := gb364) (o := .cells #[.slice A0_0 l0_0.length c0_0, .int .i64 a0_1] 46 (0, 0)) (by (with_reducible repeat (first | refine blk_drewN ?_ _ | refine blk_drew ?_ | refine blk_alloc ?_ _)); refine blk_far ?_ NB364_383.out _; (with_reducible repeat (first | refine blk_drewN ?_ _ | refine blk_drew ?_ | refine blk_alloc ?_ _)); refine blk_far ?_ NB364_383.out _; (with_reducible repeat (first | refine blk_drewN ?_ _ | refine blk_drew ?_ | refine blk_alloc ?_ _)); refine blk_far ?_ NB364_383.out _; (with_reducible repeat (first | refine blk_drewN ?_ _ | refine blk_drew ?_ | refine blk_alloc ?_ _)); refine blk_far ?_ NB364_383.out _; (with_reducible repeat (first | refine blk_drewN ?_ _ | refine blk_drew ?_ | refine blk_alloc ?_ _)); refine blk_far ?_ NB364_383.out _; (with_reducible repeat (first | refine blk_drewN ?_ _ | refine blk_drew ?_ | refine blk_alloc ?_ _)); refine blk_far ?_ NB364_383.out _; (with_reducible repeat (first | refine blk_drewN ?_ _ | refine blk_drew ?_ | refine blk_alloc ?_ _)); exact BK364.out) hb); replace BK383 := Aside0.mk (blk_below (g := gb383) (o := .cells #[.int .i64 t370, .int .i64 t371, .int .i64 t372, .slice Ao21 t373.length co21, .slice Ao22 t376.length co22, .slice Ao23 t379.length co23] 64 (0, 0)) (by (with_reducible repeat (first | refine blk_drewN ?_ _ | refine blk_drew ?_ | refine blk_alloc ?_ _)); refine blk_put (cs := #[.int .i64 t370, .int .i64 t371, .int .i64 t372, .slice Ao21 t373.length co21, .slice Ao22 t376.length co22, .slice none 0 0]) ?_ 5 _ rfl; (with_reducible repeat (first | refine blk_drewN ?_ _ | refine blk_drew ?_ | refine blk_alloc ?_ _)); refine blk_put (cs := #[.int .i64 t370, .int .i64 t371, .int .i64 t372, .slice Ao21 t373.length co21, .slice none 0 0, .slice none 0 0]) ?_ 4 _ rfl; (with_reducible repeat (first | refine blk_drewN ?_ _ | refine blk_drew ?_ | refine blk_alloc ?_ _)); refine blk_put (cs := #[.int .i64 t370, .int .i64 t371, .int .i64 t372, .slice none 0 0, .slice none 0 0, .slice none 0 0]) ?_ 3 _ rfl; (with_reducible repeat (first | refine blk_drewN ?_ _ | refine blk_drew ?_ | refine blk_alloc ?_ _)); refine blk_put (cs := #[.int .i64 t370, .int .i64 t371, .int .i64 0, .slice none 0 0, .slice none 0 0, .slice none 0 0]) ?_ 2 _ rfl; (with_reducible repeat (first | refine blk_drewN ?_ _ | refine blk_drew ?_ | refine blk_alloc ?_ _)); refine blk_put (cs := #[.int .i64 t370, .int .i64 0, .int .i64 0, .slice none 0 0, .slice none 0 0, .slice none 0 0]) ?_ 1 _ rfl; (with_reducible repeat (first | refine blk_drewN ?_ _ | refine blk_drew ?_ | refine blk_alloc ?_ _)); refine blk_put (cs := #[.int .i64 0, .int .i64 0, .int .i64 0, .slice none 0 0, .slice none 0 0, .slice none 0 0]) ?_ 0 _ rfl; (with_reducible repeat (first | refine blk_drewN ?_ _ | refine blk_drew ?_ | refine blk_alloc ?_ _)); exact BK383.out) hb); replace HB := Aside0.mk (below_step oB hb); (try clear hk)))
          go_ret2
          exact ⟨oE, oB⟩
         ·rw [if_neg c15] at H
          have c15b0 : (t384 == 0) = false := beq_eq_false_iff_ne.mpr c15
          have c15b1 : (t384 != 0) = true := bne_iff_ne.mpr c15
          have H' := Aside0.mk H
          clear H
          have p369 : (0 ≤ (x22_1 : Int)) = True := oT
          have q369 : (x22_1 < (t365.length : Int)) = True := oT
          obtain ⟨ad369, e369, hx369_0⟩ := Kd.at_string (Kd.Q_reads' HO_20.out).2.2 x22_1 oa oa
          cases e369
          obtain ⟨⟨_, _⟩, _, _⟩ := z2 BK364
          go_wp2_with (first | ((with_reducible refine gate_callee (f := 67) rfl ?_); refine gl_ 29 Tryd.func67 (impl_InodeAt.calls k1 _ _ l0_0 a0_1 x8_1 t370 t371 t372 t373 t376 t379 true _ (kC HR0_0) HC0_0.out A11.out) ?_; rintro e w26 ⟨v374, v377, v380, rfl, ho0, ho1, ho2, hb⟩; refine ⟨_, rfl, ?_⟩; have HO375 := Aside0.mk (Kd.R_lower ho0 (below_size oB)); have HO378 := Aside0.mk (Kd.R_lower ho1 (below_size oB)); have HO381 := Aside0.mk (Kd.R_lower ho2 (below_size oB)); replace HO_20 := Aside0.mk (Kd.Q_below (by (with_reducible repeat (first | apply Kd.Q_alloc | apply Kd.Q_drewN | apply Kd.Q_drew)); exact HO_20.out) hb); replace BK364 := kb_ BK364 hb; replace HB := Aside0.mk (below_step oB hb); (try clear ho1); (try clear ho2)) | ((with_reducible refine gate_dst (N := 11) rfl ?_); refine bx_ 11 #[.int .i64 0, .int .i64 0, .int .i64 0, .slice none 0 0, .slice none 0 0, .slice none 0 0] 64 ?_; intro gb383 hg w27 hbox hb; have BK383 := Aside0.mk (hbox); have GW383 := gs_ hg; have GE383 := gs_ hg; have NB364_383 := nl_ hg BK364; have NB383_364 := nr_ hg BK364; replace HO_20 := Aside0.mk (Kd.Q_below (by (with_reducible repeat (first | apply Kd.Q_alloc | apply Kd.Q_drewN | apply Kd.Q_drew)); exact HO_20.out) hb); replace HO375 := kr_ HO375 hb; replace HO378 := kr_ HO378 hb; replace HO381 := kr_ HO381 hb; replace BK364 := kb_ BK364 hb; replace HB := Aside0.mk (below_step oB hb); clear hb hbox hg; have hnb28 := NB383_364.out; have hnc28 := NB364_383.out; obtain ⟨⟨_, _, _, _, _, _⟩, _, _, _, _, _, _⟩ := z6 BK383; obtain ⟨Ao30, co30, eo30⟩ := Kd.R_slice HO375.out; subst eo30; obtain ⟨Ao31, co31, eo31⟩ := Kd.R_slice HO378.out; subst eo31; obtain ⟨Ao32, co32, eo32⟩ := Kd.R_slice HO381.out; subst eo32) | ((with_reducible refine gate_callee (f := 68) rfl ?_); refine gl_ 41 Tryd.func68 (impl_EntOf.calls k1 t370 t371 t372 _ _ t373 _ _ t376 _ _ t379 (rdOf ByteArray.empty t365 x22_1) t384 _ ?side1 (ko HO375) ?side3 (ko HO378) ?side5 (ko HO381) A14.out) ?_; (case side1 => refine (Kd.R_reads' (e := 5) (base := w.heap.size) (ok := fun k_ => True) (n := t373.length) (c := co30) ?_).2.2; exact (by (with_reducible repeat (first | apply Kd.R_alloc | apply Kd.R_drewN | apply Kd.R_drew)); exact (Kd.R_mono (Kd.R_far (p := ⟨gb383, 5, none⟩) (Kd.R_far (p := ⟨gb383, 4, none⟩) (Kd.R_far (p := ⟨gb383, 3, none⟩) (Kd.R_far (p := ⟨gb383, 2, none⟩) (Kd.R_far (p := ⟨gb383, 1, none⟩) (Kd.R_far (p := ⟨gb383, 0, none⟩) (Kd.R_types HO375.out BK383.out (by decide)) (fun _ hk => hk.2) (.int .i64 t370)) (fun _ hk => hk.2) (.int .i64 t371)) (fun _ hk => hk.2) (.int .i64 t372)) (fun _ hk => hk.2) (.slice Ao30 t373.length co30)) (fun _ hk => hk.2) (.slice Ao31 t376.length co31)) (fun _ hk => hk.2) (.slice Ao32 t379.length co32)) (fun _ h_ => h_.1)))); (case side3 => refine (Kd.R_reads' (e := 91) (base := w.heap.size) (ok := fun k_ => True) (n := t376.length) (c := co31) ?_).2.2; exact (by (with_reducible repeat (first | apply Kd.R_alloc | apply Kd.R_drewN | apply Kd.R_drew)); exact (Kd.R_mono (Kd.R_far (p := ⟨gb383, 5, none⟩) (Kd.R_far (p := ⟨gb383, 4, none⟩) (Kd.R_far (p := ⟨gb383, 3, none⟩) (Kd.R_far (p := ⟨gb383, 2, none⟩) (Kd.R_far (p := ⟨gb383, 1, none⟩) (Kd.R_far (p := ⟨gb383, 0, none⟩) (Kd.R_types HO378.out BK383.out (by decide)) (fun _ hk => hk.2) (.int .i64 t370)) (fun _ hk => hk.2) (.int .i64 t371)) (fun _ hk => hk.2) (.int .i64 t372)) (fun _ hk => hk.2) (.slice Ao30 t373.length co30)) (fun _ hk => hk.2) (.slice Ao31 t376.length co31)) (fun _ hk => hk.2) (.slice Ao32 t379.length co32)) (fun _ h_ => h_.1)))); (case side5 => refine (Kd.R_reads' (e := 87) (base := w.heap.size) (ok := fun k_ => True) (n := t379.length) (c := co32) ?_).2.2; exact (by (with_reducible repeat (first | apply Kd.R_alloc | apply Kd.R_drewN | apply Kd.R_drew)); exact (Kd.R_mono (Kd.R_far (p := ⟨gb383, 5, none⟩) (Kd.R_far (p := ⟨gb383, 4, none⟩) (Kd.R_far (p := ⟨gb383, 3, none⟩) (Kd.R_far (p := ⟨gb383, 2, none⟩) (Kd.R_far (p := ⟨gb383, 1, none⟩) (Kd.R_far (p := ⟨gb383, 0, none⟩) (Kd.R_types HO381.out BK383.out (by decide)) (fun _ hk => hk.2) (.int .i64 t370)) (fun _ hk => hk.2) (.int .i64 t371)) (fun _ hk => hk.2) (.int .i64 t372)) (fun _ hk => hk.2) (.slice Ao30 t373.length co30)) (fun _ hk => hk.2) (.slice Ao31 t376.length co31)) (fun _ hk => hk.2) (.slice Ao32 t379.length co32)) (fun _ h_ => h_.1)))); rintro e w33 ⟨rfl, hb⟩; refine ⟨_, rfl, ?_⟩; replace HO_20 := Aside0.mk (Kd.Q_below (by (with_reducible repeat (first | apply Kd.Q_alloc | apply Kd.Q_drewN | apply Kd.Q_drew)); exact (Kd.Q_mono (Kd.Q_far (p := ⟨gb383, 5, none⟩) (Kd.Q_far (p := ⟨gb383, 4, none⟩) (Kd.Q_far (p := ⟨gb383, 3, none⟩) (Kd.Q_far (p := ⟨gb383, 2, none⟩) (Kd.Q_far (p := ⟨gb383, 1, none⟩) (Kd.Q_far (p := ⟨gb383, 0, none⟩) (Kd.Q_types HO_20.out BK383.out (by decide)) (fun _ hk => hk.2) (.int .i64 t370)) (fun _ hk => hk.2) (.int .i64 t371)) (fun _ hk => hk.2) (.int .i64 t372)) (fun _ hk => hk.2) (.slice Ao30 t373.length co30)) (fun _ hk => hk.2) (.slice Ao31 t376.length co31)) (fun _ hk => hk.2) (.slice Ao32 t379.length co32)) (fun _ h_ => h_.1))) hb); replace HO375 := Aside0.mk (Kd.R_below (by (with_reducible repeat (first | apply Kd.R_alloc | apply Kd.R_drewN | apply Kd.R_drew)); exact (Kd.R_mono (Kd.R_far (p := ⟨gb383, 5, none⟩) (Kd.R_far (p := ⟨gb383, 4, none⟩) (Kd.R_far (p := ⟨gb383, 3, none⟩) (Kd.R_far (p := ⟨gb383, 2, none⟩) (Kd.R_far (p := ⟨gb383, 1, none⟩) (Kd.R_far (p := ⟨gb383, 0, none⟩) (Kd.R_types HO375.out BK383.out (by decide)) (fun _ hk => hk.2) (.int .i64 t370)) (fun _ hk => hk.2) (.int .i64 t371)) (fun _ hk => hk.2) (.int .i64 t372)) (fun _ hk => hk.2) (.slice Ao30 t373.length co30)) (fun _ hk => hk.2) (.slice Ao31 t376.length co31)) (fun _ hk => hk.2) (.slice Ao32 t379.length co32)) (fun _ h_ => h_.1))) hb); replace HO378 := Aside0.mk (Kd.R_below (by (with_reducible repeat (first | apply Kd.R_alloc | apply Kd.R_drewN | apply Kd.R_drew)); exact (Kd.R_mono (Kd.R_far (p := ⟨gb383, 5, none⟩) (Kd.R_far (p := ⟨gb383, 4, none⟩) (Kd.R_far (p := ⟨gb383, 3, none⟩) (Kd.R_far (p := ⟨gb383, 2, none⟩) (Kd.R_far (p := ⟨gb383, 1, none⟩) (Kd.R_far (p := ⟨gb383, 0, none⟩) (Kd.R_types HO378.out BK383.out (by decide)) (fun _ hk => hk.2) (.int .i64 t370)) (fun _ hk => hk.2) (.int .i64 t371)) (fun _ hk => hk.2) (.int .i64 t372)) (fun _ hk => hk.2) (.slice Ao30 t373.length co30)) (fun _ hk => hk.2) (.slice Ao31 t376.length co31)) (fun _ hk => hk.2) (.slice Ao32 t379.length co32)) (fun _ h_ => h_.1))) hb); replace HO381 := Aside0.mk (Kd.R_below (by (with_reducible repeat (first | apply Kd.R_alloc | apply Kd.R_drewN | apply Kd.R_drew)); exact (Kd.R_mono (Kd.R_far (p := ⟨gb383, 5, none⟩) (Kd.R_far (p := ⟨gb383, 4, none⟩) (Kd.R_far (p := ⟨gb383, 3, none⟩) (Kd.R_far (p := ⟨gb383, 2, none⟩) (Kd.R_far (p := ⟨gb383, 1, none⟩) (Kd.R_far (p := ⟨gb383, 0, none⟩) (Kd.R_types HO381.out BK383.out (by decide)) (fun _ hk => hk.2) (.int .i64 t370)) (fun _ hk => hk.2) (.int .i64 t371)) (fun _ hk => hk.2) (.int .i64 t372)) (fun _ hk => hk.2) (.slice Ao30 t373.length co30)) (fun _ hk => hk.2) (.slice Ao31 t376.length co31)) (fun _ hk => hk.2) (.slice Ao32 t379.length co32)) (fun _ h_ => h_.1))) hb); replace BK364 := Aside0.mk (blk_below (g := gb364) (o := .cells #[.slice A0_0 l0_0.length c0_0, .int .i64 a0_1] 46 (0, 0)) (by (with_reducible repeat (first | refine blk_drewN ?_ _ | refine blk_drew ?_ | refine blk_alloc ?_ _)); refine blk_far ?_ NB364_383.out _; (with_reducible repeat (first | refine blk_drewN ?_ _ | refine blk_drew ?_ | refine blk_alloc ?_ _)); refine blk_far ?_ NB364_383.out _; (with_reducible repeat (first | refine blk_drewN ?_ _ | refine blk_drew ?_ | refine blk_alloc ?_ _)); refine blk_far ?_ NB364_383.out _; (with_reducible repeat (first | refine blk_drewN ?_ _ | refine blk_drew ?_ | refine blk_alloc ?_ _)); refine blk_far ?_ NB364_383.out _; (with_reducible repeat (first | refine blk_drewN ?_ _ | refine blk_drew ?_ | refine blk_alloc ?_ _)); refine blk_far ?_ NB364_383.out _; (with_reducible repeat (first | refine blk_drewN ?_ _ | refine blk_drew ?_ | refine blk_alloc ?_ _)); refine blk_far ?_ NB364_383.out _; (with_reducible repeat (first | refine blk_drewN ?_ _ | refine blk_drew ?_ | refine blk_alloc ?_ _)); exact BK364.out) hb); replace BK383 := Aside0.mk (blk_below (g := gb383) (o := .cells #[.int .i64 t370, .int .i64 t371, .int .i64 t372, .slice Ao30 t373.length co30, .slice Ao31 t376.length co31, .slice Ao32 t379.length co32] 64 (0, 0)) (by (with_reducible repeat (first | refine blk_drewN ?_ _ | refine blk_drew ?_ | refine blk_alloc ?_ _)); refine blk_put (cs := #[.int .i64 t370, .int .i64 t371, .int .i64 t372, .slice Ao30 t373.length co30, .slice Ao31 t376.length co31, .slice none 0 0]) ?_ 5 _ rfl; (with_reducible repeat (first | refine blk_drewN ?_ _ | refine blk_drew ?_ | refine blk_alloc ?_ _)); refine blk_put (cs := #[.int .i64 t370, .int .i64 t371, .int .i64 t372, .slice Ao30 t373.length co30, .slice none 0 0, .slice none 0 0]) ?_ 4 _ rfl; (with_reducible repeat (first | refine blk_drewN ?_ _ | refine blk_drew ?_ | refine blk_alloc ?_ _)); refine blk_put (cs := #[.int .i64 t370, .int .i64 t371, .int .i64 t372, .slice none 0 0, .slice none 0 0, .slice none 0 0]) ?_ 3 _ rfl; (with_reducible repeat (first | refine blk_drewN ?_ _ | refine blk_drew ?_ | refine blk_alloc ?_ _)); refine blk_put (cs := #[.int .i64 t370, .int .i64 t371, .int .i64 0, .slice none 0 0, .slice none 0 0, .slice none 0 0]) ?_ 2 _ rfl; (with_reducible repeat (first | refine blk_drewN ?_ _ | refine blk_drew ?_ | refine blk_alloc ?_ _)); refine blk_put (cs := #[.int .i64 t370, .int .i64 0, .int .i64 0, .slice none 0 0, .slice none 0 0, .slice none 0 0]) ?_ 1 _ rfl; (with_reducible repeat (first | refine blk_drewN ?_ _ | refine blk_drew ?_ | refine blk_alloc ?_ _)); refine blk_put (cs := #[.int .i64 0, .int .i64 0, .int .i64 0, .slice none 0 0, .slice none 0 0, .slice none 0 0]) ?_ 0 _ rfl; (with_reducible repeat (first | refine blk_drewN ?_ _ | refine blk_drew ?_ | refine blk_alloc ?_ _)); exact BK383.out) hb); replace HB := Aside0.mk (below_step oB hb); (try clear hk)))
          go_roundg k1
          case measure => have := HK1.out; omega
          case rel => exact ⟨(t384), (wrap64 (x22_1 + 1)), oS, oS, H', ⟨by have := HK1.out; omega⟩, ⟨by (with_reducible repeat (first | apply Kd.Q_alloc | apply Kd.Q_drewN | apply Kd.Q_drew)); exact HO_20.out⟩, ⟨oF BK364⟩, ⟨oB⟩⟩
        ·rw [if_neg c13] at H
         have c13b0 : (t371 == 2) = false := beq_eq_false_iff_ne.mpr c13
         have c13b1 : (t371 != 2) = true := bne_iff_ne.mpr c13
         simp only [Option.some.injEq, Prod.mk.injEq] at H
         obtain ⟨rfl, rfl⟩ := H
         have p369 : (0 ≤ (x22_1 : Int)) = True := oT
         have q369 : (x22_1 < (t365.length : Int)) = True := oT
         obtain ⟨ad369, e369, hx369_0⟩ := Kd.at_string (Kd.Q_reads' HO_20.out).2.2 x22_1 oa oa
         cases e369
         obtain ⟨⟨_, _⟩, _, _⟩ := z2 BK364
         go_wp2_with (first | ((with_reducible refine gate_callee (f := 67) rfl ?_); refine gl_ 29 Tryd.func67 (impl_InodeAt.calls k1 _ _ l0_0 a0_1 x8_1 t370 t371 t372 t373 t376 t379 true _ (kC HR0_0) HC0_0.out A11.out) ?_; rintro e w35 ⟨v374, v377, v380, rfl, ho0, ho1, ho2, hb⟩; refine ⟨_, rfl, ?_⟩; have HO375 := Aside0.mk (Kd.R_lower ho0 (below_size oB)); have HO378 := Aside0.mk (Kd.R_lower ho1 (below_size oB)); have HO381 := Aside0.mk (Kd.R_lower ho2 (below_size oB)); replace HO_20 := Aside0.mk (Kd.Q_below (by (with_reducible repeat (first | apply Kd.Q_alloc | apply Kd.Q_drewN | apply Kd.Q_drew)); exact HO_20.out) hb); replace BK364 := kb_ BK364 hb; replace HB := Aside0.mk (below_step oB hb); (try clear ho1); (try clear ho2)) | ((with_reducible refine gate_dst (N := 11) rfl ?_); refine bx_ 11 #[.int .i64 0, .int .i64 0, .int .i64 0, .slice none 0 0, .slice none 0 0, .slice none 0 0] 64 ?_; intro gb383 hg w36 hbox hb; have BK383 := Aside0.mk (hbox); have GW383 := gs_ hg; have GE383 := gs_ hg; have NB364_383 := nl_ hg BK364; have NB383_364 := nr_ hg BK364; replace HO_20 := Aside0.mk (Kd.Q_below (by (with_reducible repeat (first | apply Kd.Q_alloc | apply Kd.Q_drewN | apply Kd.Q_drew)); exact HO_20.out) hb); replace HO375 := kr_ HO375 hb; replace HO378 := kr_ HO378 hb; replace HO381 := kr_ HO381 hb; replace BK364 := kb_ BK364 hb; replace HB := Aside0.mk (below_step oB hb); clear hb hbox hg; have hnb37 := NB383_364.out; have hnc37 := NB364_383.out; obtain ⟨⟨_, _, _, _, _, _⟩, _, _, _, _, _, _⟩ := z6 BK383; obtain ⟨Ao39, co39, eo39⟩ := Kd.R_slice HO375.out; subst eo39; obtain ⟨Ao40, co40, eo40⟩ := Kd.R_slice HO378.out; subst eo40; obtain ⟨Ao41, co41, eo41⟩ := Kd.R_slice HO381.out; subst eo41))
         go_ret2
         exact ⟨oE, oB⟩
       ·simp only [Option.some.injEq, Prod.mk.injEq] at H
        obtain ⟨rfl, rfl⟩ := H
        have p369 : (0 ≤ (x22_1 : Int)) = True := oT
        have q369 : (x22_1 < (t365.length : Int)) = True := oT
        obtain ⟨ad369, e369, hx369_0⟩ := Kd.at_string (Kd.Q_reads' HO_20.out).2.2 x22_1 oa oa
        cases e369
        obtain ⟨⟨_, _⟩, _, _⟩ := z2 BK364
        go_wp2_with (first | ((with_reducible refine gate_callee (f := 67) rfl ?_); refine gl_ 29 Tryd.func67 (impl_InodeAt.calls k1 _ _ l0_0 a0_1 x8_1 t370 t371 t372 t373 t376 t379 false _ (kC HR0_0) HC0_0.out A11.out) ?_; rintro e w43 ⟨v374, v377, v380, rfl, ho0, ho1, ho2, hb⟩; refine ⟨_, rfl, ?_⟩; have HO375 := Aside0.mk (Kd.R_lower ho0 (below_size oB)); have HO378 := Aside0.mk (Kd.R_lower ho1 (below_size oB)); have HO381 := Aside0.mk (Kd.R_lower ho2 (below_size oB)); replace HO_20 := Aside0.mk (Kd.Q_below (by (with_reducible repeat (first | apply Kd.Q_alloc | apply Kd.Q_drewN | apply Kd.Q_drew)); exact HO_20.out) hb); replace BK364 := kb_ BK364 hb; replace HB := Aside0.mk (below_step oB hb); (try clear ho1); (try clear ho2)) | ((with_reducible refine gate_dst (N := 11) rfl ?_); refine bx_ 11 #[.int .i64 0, .int .i64 0, .int .i64 0, .slice none 0 0, .slice none 0 0, .slice none 0 0] 64 ?_; intro gb383 hg w44 hbox hb; have BK383 := Aside0.mk (hbox); have GW383 := gs_ hg; have GE383 := gs_ hg; have NB364_383 := nl_ hg BK364; have NB383_364 := nr_ hg BK364; replace HO_20 := Aside0.mk (Kd.Q_below (by (with_reducible repeat (first | apply Kd.Q_alloc | apply Kd.Q_drewN | apply Kd.Q_drew)); exact HO_20.out) hb); replace HO375 := kr_ HO375 hb; replace HO378 := kr_ HO378 hb; replace HO381 := kr_ HO381 hb; replace BK364 := kb_ BK364 hb; replace HB := Aside0.mk (below_step oB hb); clear hb hbox hg; have hnb45 := NB383_364.out; have hnc45 := NB364_383.out; obtain ⟨⟨_, _, _, _, _, _⟩, _, _, _, _, _, _⟩ := z6 BK383; obtain ⟨Ao47, co47, eo47⟩ := Kd.R_slice HO375.out; subst eo47; obtain ⟨Ao48, co48, eo48⟩ := Kd.R_slice HO378.out; subst eo48; obtain ⟨Ao49, co49, eo49⟩ := Kd.R_slice HO381.out; subst eo49))
        go_ret2
        exact ⟨oE, oB⟩
      ·cases H
     ·cases H
    ·simp only [Option.some.injEq, Prod.mk.injEq] at H
     obtain ⟨rfl, rfl⟩ := H
     go_wp2
     go_ret2
     exact ⟨oE, oB⟩
 ·simp only [Option.some.injEq, Prod.mk.injEq] at H
  obtain ⟨rfl, rfl⟩ := H
  go_enter Tryd.func35, Tryd.ntmps35
  go_wp2_with (first | ((with_reducible refine gate_dst (N := 2) rfl ?_); refine bx_ 2 #[.slice A0_0 l0_0.length c0_0, .int .i64 a0_1] 46 ?_; intro gb364 hg w50 hbox hb; have BK364 := Aside0.mk (hbox); have GW364 := gs_ hg; have GE364 := gs_ hg; replace HB := Aside0.mk (below_step oB hb); clear hb hbox hg) | ((with_reducible refine gate_callee (f := 17) rfl ?_); refine gl_ 15 Tryd.func17 (impl_SplitPath.calls k a1 t365 false _ A3.out) ?_; rintro e w51 ⟨v367, rfl, ho0, hb⟩; refine ⟨_, rfl, ?_⟩; have HO368 := Aside0.mk (Kd.Q_lower ho0 (below_size oB)); replace BK364 := kb_ BK364 hb; replace HB := Aside0.mk (below_step oB hb)))
  go_ret2
  exact ⟨oE, oB⟩

/-! ### impl_Stat: function 48 -/
def impl_Stat.f (k : Nat) (l0_0 : List (S64)) (a0_1 : Int) (a1 : ByteArray) : Option (Int × Int × Int × List Int × (List (S91)) × (List (S87)) × Int) := (impl_Walk.f k l0_0 a0_1 a1).bind fun bt387 => (if bt387.2 = 0 then ((impl_InodeAt.f k l0_0 a0_1 bt387.1).bind fun bt389 => (if bt389.2.2.2.2.2.2 = true then (some (bt389.1, bt389.2.1, bt389.2.2.1, bt389.2.2.2.1, bt389.2.2.2.2.1, bt389.2.2.2.2.2.1, 0)) else (some (0, 0, 0, ([] : List Int), ([] : List (S91)), ([] : List (S87)), 2)))) else (some (0, 0, 0, ([] : List Int), ([] : List (S91)), ([] : List (S87)), bt387.2)))
set_option maxHeartbeats 8000000 in
set_option maxRecDepth 100000 in
theorem impl_Stat.calls (k : Nat) (A0_0 : Option Addr) (c0_0 : Nat) (l0_0 : List (S64)) (a0_1 : Int) (a1 : ByteArray) (r1 : Int) (r2 : Int) (r3 : Int) (r4 : List Int) (r5 : List (S91)) (r6 : List (S87)) (r7 : Int) (w : World) (hr0_0 : Kd.C k64 w A0_0 l0_0.length l0_0) (hc0_0 : l0_0.length ≤ c0_0) (h : impl_Stat.f k l0_0 a0_1 a1 = some (r1, r2, r3, r4, r5, r6, r7)) (hG : GOk w := by exact gk_ oB (by first | (with_reducible assumption) | assumption)) :
  Calls Tryd.prog 48 #[.agg #[.slice A0_0 l0_0.length c0_0, .int .i64 a0_1], .string a1] w fun e w' => ∃ v3_ v4_ v5_ : Value, e = .returned (.tuple #[.agg #[.int .i64 r1, .int .i64 r2, .int .i64 r3, v3_, v4_, v5_], .int .i64 r7]) ∧ Kd.R (Kd.int .u8) 5 w' w.heap.size (fun _ => True) v3_ r4 ∧ Kd.R k91 91 w' w.heap.size (fun _ => True) v4_ r5 ∧ Kd.R k87 87 w' w.heap.size (fun _ => True) v5_ r6 ∧ Below w.heap.size w w' := by
 have HG := Aside0.mk hG
 clear hG
 have hu46 := Tryd.underlying46
 have hu64 := Tryd.underlying64
 have HR0_0 := Aside0.mk hr0_0
 have HC0_0 := Aside0.mk hc0_0
 clear hr0_0 hc0_0
 have HB := Aside0.mk (Below.refl w.heap.size w)
 unfold impl_Stat.f at h
 have H := h
 clear h
 replace H := bA H
 obtain ⟨⟨t387, t388⟩, A3, H⟩ := H
 try dsimp only at H
 by_cases c4 : t388 = 0
 ·rw [if_pos c4] at H
  have c4b0 : (t388 == 0) = true := beq_iff_eq.mpr c4
  have c4b1 : (t388 != 0) = false := bne_eq_false_iff_eq.mpr c4
  clear c4
  replace H := bA H
  obtain ⟨⟨t389, t390, t391, t392, t395, t398, t401⟩, A5, H⟩ := H
  try dsimp only at H
  replace H := itB H
  rcases H with ⟨rfl, H⟩ | ⟨rfl, H⟩
  ·simp only [Option.some.injEq, Prod.mk.injEq] at H
   obtain ⟨rfl, rfl, rfl, rfl, rfl, rfl, rfl⟩ := H
   go_enter Tryd.func48, Tryd.ntmps48
   go_wp2_with (first | ((with_reducible refine gate_dst (N := 2) rfl ?_); refine bx_ 2 #[.slice A0_0 l0_0.length c0_0, .int .i64 a0_1] 46 ?_; intro gb385 hg w7 hbox hb; have BK385 := Aside0.mk (hbox); have GW385 := gs_ hg; have GE385 := gs_ hg; replace HB := Aside0.mk (below_step oB hb); clear hb hbox hg) | ((with_reducible refine gate_dst (N := 4) rfl ?_); refine bx_ 4 #[.int .i64 0, .int .i64 0, .int .i64 0, .slice none 0 0, .slice none 0 0, .slice none 0 0] 64 ?_; intro gb386 hg w8 hbox hb; have BK386 := Aside0.mk (hbox); have GW386 := gs_ hg; have GE386 := gs_ hg; have NB385_386 := nl_ hg BK385; have NB386_385 := nr_ hg BK385; replace BK385 := kb_ BK385 hb; replace HB := Aside0.mk (below_step oB hb); clear hb hbox hg; have hnb9 := NB385_386.out; have hnc9 := NB386_385.out; obtain ⟨⟨_, _⟩, _, _⟩ := z2 BK385) | ((with_reducible refine gate_callee (f := 35) rfl ?_); refine gl_ 13 Tryd.func35 (impl_Walk.calls k _ _ l0_0 a0_1 a1 t387 t388 _ (kC HR0_0) HC0_0.out A3.out) ?_; rintro e w11 ⟨rfl, hb⟩; refine ⟨_, rfl, ?_⟩; replace BK385 := kb_ BK385 hb; replace BK386 := kb_ BK386 hb; replace HB := Aside0.mk (below_step oB hb); obtain ⟨⟨_, _⟩, _, _⟩ := z2 BK385) | ((with_reducible refine gate_callee (f := 67) rfl ?_); refine gl_ 23 Tryd.func67 (impl_InodeAt.calls k _ _ l0_0 a0_1 t387 t389 t390 t391 t392 t395 t398 true _ (kC HR0_0) HC0_0.out A5.out) ?_; rintro e w13 ⟨v393, v396, v399, rfl, ho0, ho1, ho2, hb⟩; refine ⟨_, rfl, ?_⟩; have HO394 := Aside0.mk (Kd.R_lower ho0 (below_size oB)); have HO397 := Aside0.mk (Kd.R_lower ho1 (below_size oB)); have HO400 := Aside0.mk (Kd.R_lower ho2 (below_size oB)); replace BK385 := kb_ BK385 hb; replace BK386 := kb_ BK386 hb; replace HB := Aside0.mk (below_step oB hb); (try clear ho1); (try clear ho2)) | ((with_reducible refine gate_dst (N := 8) rfl ?_); refine bx_ 8 #[.int .i64 0, .int .i64 0, .int .i64 0, .slice none 0 0, .slice none 0 0, .slice none 0 0] 64 ?_; intro gb402 hg w14 hbox hb; have BK402 := Aside0.mk (hbox); have GW402 := gs_ hg; have GE402 := gs_ hg; have NB385_402 := nl_ hg BK385; have NB402_385 := nr_ hg BK385; have NB386_402 := nl_ hg BK386; have NB402_386 := nr_ hg BK386; replace HO394 := kr_ HO394 hb; replace HO397 := kr_ HO397 hb; replace HO400 := kr_ HO400 hb; replace BK385 := kb_ BK385 hb; replace BK386 := kb_ BK386 hb; replace HB := Aside0.mk (below_step oB hb); clear hb hbox hg; have hnb15 := NB402_385.out; have hnc15 := NB385_402.out; have hnb16 := NB402_386.out; have hnc16 := NB386_402.out; obtain ⟨⟨_, _, _, _, _, _⟩, _, _, _, _, _, _⟩ := z6 BK402; obtain ⟨Ao18, co18, eo18⟩ := Kd.R_slice HO394.out; subst eo18; obtain ⟨Ao19, co19, eo19⟩ := Kd.R_slice HO397.out; subst eo19; obtain ⟨Ao20, co20, eo20⟩ := Kd.R_slice HO400.out; subst eo20; obtain ⟨⟨_, _, _, _, _, _⟩, _, _, _, _, _, _⟩ := z6 BK386))
   refine bodyPost_ret (results_ct rfl _ _ gb386 64 #[.int .i64 t389, .int .i64 t390, .int .i64 t391, .slice Ao18 t392.length co18, .slice Ao19 t395.length co19, .slice Ao20 t398.length co20] (0, 0) _ rfl (by (with_reducible repeat (first | refine blk_drewN ?_ _ | refine blk_drew ?_ | refine blk_alloc ?_ _)); refine blk_put (cs := #[.int .i64 t389, .int .i64 t390, .int .i64 t391, .slice Ao18 t392.length co18, .slice Ao19 t395.length co19, .slice none 0 0]) ?_ 5 _ rfl; (with_reducible repeat (first | refine blk_drewN ?_ _ | refine blk_drew ?_ | refine blk_alloc ?_ _)); refine blk_put (cs := #[.int .i64 t389, .int .i64 t390, .int .i64 t391, .slice Ao18 t392.length co18, .slice none 0 0, .slice none 0 0]) ?_ 4 _ rfl; (with_reducible repeat (first | refine blk_drewN ?_ _ | refine blk_drew ?_ | refine blk_alloc ?_ _)); refine blk_put (cs := #[.int .i64 t389, .int .i64 t390, .int .i64 t391, .slice none 0 0, .slice none 0 0, .slice none 0 0]) ?_ 3 _ rfl; (with_reducible repeat (first | refine blk_drewN ?_ _ | refine blk_drew ?_ | refine blk_alloc ?_ _)); refine blk_put (cs := #[.int .i64 t389, .int .i64 t390, .int .i64 0, .slice none 0 0, .slice none 0 0, .slice none 0 0]) ?_ 2 _ rfl; (with_reducible repeat (first | refine blk_drewN ?_ _ | refine blk_drew ?_ | refine blk_alloc ?_ _)); refine blk_put (cs := #[.int .i64 t389, .int .i64 0, .int .i64 0, .slice none 0 0, .slice none 0 0, .slice none 0 0]) ?_ 1 _ rfl; (with_reducible repeat (first | refine blk_drewN ?_ _ | refine blk_drew ?_ | refine blk_alloc ?_ _)); refine blk_put (cs := #[.int .i64 0, .int .i64 0, .int .i64 0, .slice none 0 0, .slice none 0 0, .slice none 0 0]) ?_ 0 _ rfl; (with_reducible repeat (first | refine blk_drewN ?_ _ | refine blk_drew ?_ | refine blk_alloc ?_ _)); refine blk_far ?_ NB386_402.out _; (with_reducible repeat (first | refine blk_drewN ?_ _ | refine blk_drew ?_ | refine blk_alloc ?_ _)); refine blk_far ?_ NB386_402.out _; (with_reducible repeat (first | refine blk_drewN ?_ _ | refine blk_drew ?_ | refine blk_alloc ?_ _)); refine blk_far ?_ NB386_402.out _; (with_reducible repeat (first | refine blk_drewN ?_ _ | refine blk_drew ?_ | refine blk_alloc ?_ _)); refine blk_far ?_ NB386_402.out _; (with_reducible repeat (first | refine blk_drewN ?_ _ | refine blk_drew ?_ | refine blk_alloc ?_ _)); refine blk_far ?_ NB386_402.out _; (with_reducible repeat (first | refine blk_drewN ?_ _ | refine blk_drew ?_ | refine blk_alloc ?_ _)); refine blk_far ?_ NB386_402.out _; (with_reducible repeat (first | refine blk_drewN ?_ _ | refine blk_drew ?_ | refine blk_alloc ?_ _)); exact BK386.out) Tryd.underlying64 rfl (by kernel_rfl)) rfl ?_
   exact ⟨_, _, _, oE, by (with_reducible repeat (first | apply Kd.R_alloc | apply Kd.R_drewN | apply Kd.R_drew)); exact Kd.R_mono (Kd.R_far (p := ⟨gb386, 5, none⟩) (Kd.R_far (p := ⟨gb386, 4, none⟩) (Kd.R_far (p := ⟨gb386, 3, none⟩) (Kd.R_far (p := ⟨gb386, 2, none⟩) (Kd.R_far (p := ⟨gb386, 1, none⟩) (Kd.R_far (p := ⟨gb386, 0, none⟩) (Kd.R_far (p := ⟨gb402, 5, none⟩) (Kd.R_far (p := ⟨gb402, 4, none⟩) (Kd.R_far (p := ⟨gb402, 3, none⟩) (Kd.R_far (p := ⟨gb402, 2, none⟩) (Kd.R_far (p := ⟨gb402, 1, none⟩) (Kd.R_far (p := ⟨gb402, 0, none⟩) (Kd.R_types (Kd.R_types HO394.out BK402.out (by decide)) BK386.out (by decide)) (fun _ hk => hk.1.2) (.int .i64 t389)) (fun _ hk => hk.1.2) (.int .i64 t390)) (fun _ hk => hk.1.2) (.int .i64 t391)) (fun _ hk => hk.1.2) (.slice Ao18 t392.length co18)) (fun _ hk => hk.1.2) (.slice Ao19 t395.length co19)) (fun _ hk => hk.1.2) (.slice Ao20 t398.length co20)) (fun _ hk => hk.2) (.int .i64 t389)) (fun _ hk => hk.2) (.int .i64 t390)) (fun _ hk => hk.2) (.int .i64 t391)) (fun _ hk => hk.2) (.slice Ao18 t392.length co18)) (fun _ hk => hk.2) (.slice Ao19 t395.length co19)) (fun _ hk => hk.2) (.slice Ao20 t398.length co20)) (fun _ hk => trivial), by (with_reducible repeat (first | apply Kd.R_alloc | apply Kd.R_drewN | apply Kd.R_drew)); exact Kd.R_mono (Kd.R_far (p := ⟨gb386, 5, none⟩) (Kd.R_far (p := ⟨gb386, 4, none⟩) (Kd.R_far (p := ⟨gb386, 3, none⟩) (Kd.R_far (p := ⟨gb386, 2, none⟩) (Kd.R_far (p := ⟨gb386, 1, none⟩) (Kd.R_far (p := ⟨gb386, 0, none⟩) (Kd.R_far (p := ⟨gb402, 5, none⟩) (Kd.R_far (p := ⟨gb402, 4, none⟩) (Kd.R_far (p := ⟨gb402, 3, none⟩) (Kd.R_far (p := ⟨gb402, 2, none⟩) (Kd.R_far (p := ⟨gb402, 1, none⟩) (Kd.R_far (p := ⟨gb402, 0, none⟩) (Kd.R_types (Kd.R_types HO397.out BK402.out (by decide)) BK386.out (by decide)) (fun _ hk => hk.1.2) (.int .i64 t389)) (fun _ hk => hk.1.2) (.int .i64 t390)) (fun _ hk => hk.1.2) (.int .i64 t391)) (fun _ hk => hk.1.2) (.slice Ao18 t392.length co18)) (fun _ hk => hk.1.2) (.slice Ao19 t395.length co19)) (fun _ hk => hk.1.2) (.slice Ao20 t398.length co20)) (fun _ hk => hk.2) (.int .i64 t389)) (fun _ hk => hk.2) (.int .i64 t390)) (fun _ hk => hk.2) (.int .i64 t391)) (fun _ hk => hk.2) (.slice Ao18 t392.length co18)) (fun _ hk => hk.2) (.slice Ao19 t395.length co19)) (fun _ hk => hk.2) (.slice Ao20 t398.length co20)) (fun _ hk => trivial), by (with_reducible repeat (first | apply Kd.R_alloc | apply Kd.R_drewN | apply Kd.R_drew)); exact Kd.R_mono (Kd.R_far (p := ⟨gb386, 5, none⟩) (Kd.R_far (p := ⟨gb386, 4, none⟩) (Kd.R_far (p := ⟨gb386, 3, none⟩) (Kd.R_far (p := ⟨gb386, 2, none⟩) (Kd.R_far (p := ⟨gb386, 1, none⟩) (Kd.R_far (p := ⟨gb386, 0, none⟩) (Kd.R_far (p := ⟨gb402, 5, none⟩) (Kd.R_far (p := ⟨gb402, 4, none⟩) (Kd.R_far (p := ⟨gb402, 3, none⟩) (Kd.R_far (p := ⟨gb402, 2, none⟩) (Kd.R_far (p := ⟨gb402, 1, none⟩) (Kd.R_far (p := ⟨gb402, 0, none⟩) (Kd.R_types (Kd.R_types HO400.out BK402.out (by decide)) BK386.out (by decide)) (fun _ hk => hk.1.2) (.int .i64 t389)) (fun _ hk => hk.1.2) (.int .i64 t390)) (fun _ hk => hk.1.2) (.int .i64 t391)) (fun _ hk => hk.1.2) (.slice Ao18 t392.length co18)) (fun _ hk => hk.1.2) (.slice Ao19 t395.length co19)) (fun _ hk => hk.1.2) (.slice Ao20 t398.length co20)) (fun _ hk => hk.2) (.int .i64 t389)) (fun _ hk => hk.2) (.int .i64 t390)) (fun _ hk => hk.2) (.int .i64 t391)) (fun _ hk => hk.2) (.slice Ao18 t392.length co18)) (fun _ hk => hk.2) (.slice Ao19 t395.length co19)) (fun _ hk => hk.2) (.slice Ao20 t398.length co20)) (fun _ hk => trivial), oB⟩
  ·simp only [Option.some.injEq, Prod.mk.injEq] at H
   obtain ⟨rfl, rfl, rfl, rfl, rfl, rfl, rfl⟩ := H
   go_enter Tryd.func48, Tryd.ntmps48
   go_wp2_with (first | ((with_reducible refine gate_dst (N := 2) rfl ?_); refine bx_ 2 #[.slice A0_0 l0_0.length c0_0, .int .i64 a0_1] 46 ?_; intro gb385 hg w22 hbox hb; have BK385 := Aside0.mk (hbox); have GW385 := gs_ hg; have GE385 := gs_ hg; replace HB := Aside0.mk (below_step oB hb); clear hb hbox hg) | ((with_reducible refine gate_dst (N := 4) rfl ?_); refine bx_ 4 #[.int .i64 0, .int .i64 0, .int .i64 0, .slice none 0 0, .slice none 0 0, .slice none 0 0] 64 ?_; intro gb386 hg w23 hbox hb; have BK386 := Aside0.mk (hbox); have GW386 := gs_ hg; have GE386 := gs_ hg; have NB385_386 := nl_ hg BK385; have NB386_385 := nr_ hg BK385; replace BK385 := kb_ BK385 hb; replace HB := Aside0.mk (below_step oB hb); clear hb hbox hg; have hnb24 := NB385_386.out; have hnc24 := NB386_385.out; obtain ⟨⟨_, _⟩, _, _⟩ := z2 BK385) | ((with_reducible refine gate_callee (f := 35) rfl ?_); refine gl_ 13 Tryd.func35 (impl_Walk.calls k _ _ l0_0 a0_1 a1 t387 t388 _ (kC HR0_0) HC0_0.out A3.out) ?_; rintro e w26 ⟨rfl, hb⟩; refine ⟨_, rfl, ?_⟩; replace BK385 := kb_ BK385 hb; replace BK386 := kb_ BK386 hb; replace HB := Aside0.mk (below_step oB hb); obtain ⟨⟨_, _⟩, _, _⟩ := z2 BK385) | ((with_reducible refine gate_callee (f := 67) rfl ?_); refine gl_ 23 Tryd.func67 (impl_InodeAt.calls k _ _ l0_0 a0_1 t387 t389 t390 t391 t392 t395 t398 false _ (kC HR0_0) HC0_0.out A5.out) ?_; rintro e w28 ⟨v393, v396, v399, rfl, ho0, ho1, ho2, hb⟩; refine ⟨_, rfl, ?_⟩; have HO394 := Aside0.mk (Kd.R_lower ho0 (below_size oB)); have HO397 := Aside0.mk (Kd.R_lower ho1 (below_size oB)); have HO400 := Aside0.mk (Kd.R_lower ho2 (below_size oB)); replace BK385 := kb_ BK385 hb; replace BK386 := kb_ BK386 hb; replace HB := Aside0.mk (below_step oB hb); (try clear ho1); (try clear ho2)) | ((with_reducible refine gate_dst (N := 8) rfl ?_); refine bx_ 8 #[.int .i64 0, .int .i64 0, .int .i64 0, .slice none 0 0, .slice none 0 0, .slice none 0 0] 64 ?_; intro gb402 hg w29 hbox hb; have BK402 := Aside0.mk (hbox); have GW402 := gs_ hg; have GE402 := gs_ hg; have NB385_402 := nl_ hg BK385; have NB402_385 := nr_ hg BK385; have NB386_402 := nl_ hg BK386; have NB402_386 := nr_ hg BK386; replace HO394 := kr_ HO394 hb; replace HO397 := kr_ HO397 hb; replace HO400 := kr_ HO400 hb; replace BK385 := kb_ BK385 hb; replace BK386 := kb_ BK386 hb; replace HB := Aside0.mk (below_step oB hb); clear hb hbox hg; have hnb30 := NB402_385.out; have hnc30 := NB385_402.out; have hnb31 := NB402_386.out; have hnc31 := NB386_402.out; obtain ⟨⟨_, _, _, _, _, _⟩, _, _, _, _, _, _⟩ := z6 BK402; obtain ⟨Ao33, co33, eo33⟩ := Kd.R_slice HO394.out; subst eo33; obtain ⟨Ao34, co34, eo34⟩ := Kd.R_slice HO397.out; subst eo34; obtain ⟨Ao35, co35, eo35⟩ := Kd.R_slice HO400.out; subst eo35; obtain ⟨⟨_, _, _, _, _, _⟩, _, _, _, _, _, _⟩ := z6 BK386))
   refine bodyPost_ret (results_ct rfl _ _ gb386 64 #[.int .i64 0, .int .i64 0, .int .i64 0, .slice none 0 0, .slice none 0 0, .slice none 0 0] (0, 0) _ rfl (by (with_reducible repeat (first | refine blk_drewN ?_ _ | refine blk_drew ?_ | refine blk_alloc ?_ _)); refine blk_put (cs := #[.int .i64 0, .int .i64 0, .int .i64 0, .slice none 0 0, .slice none 0 0, .slice none 0 0]) ?_ 5 _ rfl; (with_reducible repeat (first | refine blk_drewN ?_ _ | refine blk_drew ?_ | refine blk_alloc ?_ _)); refine blk_put (cs := #[.int .i64 0, .int .i64 0, .int .i64 0, .slice none 0 0, .slice none 0 0, .slice none 0 0]) ?_ 4 _ rfl; (with_reducible repeat (first | refine blk_drewN ?_ _ | refine blk_drew ?_ | refine blk_alloc ?_ _)); refine blk_put (cs := #[.int .i64 0, .int .i64 0, .int .i64 0, .slice none 0 0, .slice none 0 0, .slice none 0 0]) ?_ 3 _ rfl; (with_reducible repeat (first | refine blk_drewN ?_ _ | refine blk_drew ?_ | refine blk_alloc ?_ _)); refine blk_put (cs := #[.int .i64 0, .int .i64 0, .int .i64 0, .slice none 0 0, .slice none 0 0, .slice none 0 0]) ?_ 2 _ rfl; (with_reducible repeat (first | refine blk_drewN ?_ _ | refine blk_drew ?_ | refine blk_alloc ?_ _)); refine blk_put (cs := #[.int .i64 0, .int .i64 0, .int .i64 0, .slice none 0 0, .slice none 0 0, .slice none 0 0]) ?_ 1 _ rfl; (with_reducible repeat (first | refine blk_drewN ?_ _ | refine blk_drew ?_ | refine blk_alloc ?_ _)); refine blk_put (cs := #[.int .i64 0, .int .i64 0, .int .i64 0, .slice none 0 0, .slice none 0 0, .slice none 0 0]) ?_ 0 _ rfl; (with_reducible repeat (first | refine blk_drewN ?_ _ | refine blk_drew ?_ | refine blk_alloc ?_ _)); refine blk_far ?_ NB386_402.out _; (with_reducible repeat (first | refine blk_drewN ?_ _ | refine blk_drew ?_ | refine blk_alloc ?_ _)); refine blk_far ?_ NB386_402.out _; (with_reducible repeat (first | refine blk_drewN ?_ _ | refine blk_drew ?_ | refine blk_alloc ?_ _)); refine blk_far ?_ NB386_402.out _; (with_reducible repeat (first | refine blk_drewN ?_ _ | refine blk_drew ?_ | refine blk_alloc ?_ _)); refine blk_far ?_ NB386_402.out _; (with_reducible repeat (first | refine blk_drewN ?_ _ | refine blk_drew ?_ | refine blk_alloc ?_ _)); refine blk_far ?_ NB386_402.out _; (with_reducible repeat (first | refine blk_drewN ?_ _ | refine blk_drew ?_ | refine blk_alloc ?_ _)); refine blk_far ?_ NB386_402.out _; (with_reducible repeat (first | refine blk_drewN ?_ _ | refine blk_drew ?_ | refine blk_alloc ?_ _)); exact BK386.out) Tryd.underlying64 rfl (by kernel_rfl)) rfl ?_
   exact ⟨_, _, _, oE, by first | exact Kd.R_nil _ _ _ _ _ | exact Kd.N_nil _ _ _ _ _ | exact Kd.V_nil _ _ _ _ _ | exact Kd.Q_nil _ _ _ _ _ | exact Kd.S_nil _ _ _ _ _, by first | exact Kd.R_nil _ _ _ _ _ | exact Kd.N_nil _ _ _ _ _ | exact Kd.V_nil _ _ _ _ _ | exact Kd.Q_nil _ _ _ _ _ | exact Kd.S_nil _ _ _ _ _, by first | exact Kd.R_nil _ _ _ _ _ | exact Kd.N_nil _ _ _ _ _ | exact Kd.V_nil _ _ _ _ _ | exact Kd.Q_nil _ _ _ _ _ | exact Kd.S_nil _ _ _ _ _, oB⟩
 ·rw [if_neg c4] at H
  have c4b0 : (t388 == 0) = false := beq_eq_false_iff_ne.mpr c4
  have c4b1 : (t388 != 0) = true := bne_iff_ne.mpr c4
  simp only [Option.some.injEq, Prod.mk.injEq] at H
  obtain ⟨rfl, rfl, rfl, rfl, rfl, rfl, rfl⟩ := H
  go_enter Tryd.func48, Tryd.ntmps48
  go_wp2_with (first | ((with_reducible refine gate_dst (N := 2) rfl ?_); refine bx_ 2 #[.slice A0_0 l0_0.length c0_0, .int .i64 a0_1] 46 ?_; intro gb385 hg w37 hbox hb; have BK385 := Aside0.mk (hbox); have GW385 := gs_ hg; have GE385 := gs_ hg; replace HB := Aside0.mk (below_step oB hb); clear hb hbox hg) | ((with_reducible refine gate_dst (N := 4) rfl ?_); refine bx_ 4 #[.int .i64 0, .int .i64 0, .int .i64 0, .slice none 0 0, .slice none 0 0, .slice none 0 0] 64 ?_; intro gb386 hg w38 hbox hb; have BK386 := Aside0.mk (hbox); have GW386 := gs_ hg; have GE386 := gs_ hg; have NB385_386 := nl_ hg BK385; have NB386_385 := nr_ hg BK385; replace BK385 := kb_ BK385 hb; replace HB := Aside0.mk (below_step oB hb); clear hb hbox hg; have hnb39 := NB385_386.out; have hnc39 := NB386_385.out; obtain ⟨⟨_, _⟩, _, _⟩ := z2 BK385) | ((with_reducible refine gate_callee (f := 35) rfl ?_); refine gl_ 13 Tryd.func35 (impl_Walk.calls k _ _ l0_0 a0_1 a1 t387 t388 _ (kC HR0_0) HC0_0.out A3.out) ?_; rintro e w41 ⟨rfl, hb⟩; refine ⟨_, rfl, ?_⟩; replace BK385 := kb_ BK385 hb; replace BK386 := kb_ BK386 hb; replace HB := Aside0.mk (below_step oB hb); obtain ⟨⟨_, _, _, _, _, _⟩, _, _, _, _, _, _⟩ := z6 BK386))
  refine bodyPost_ret (results_ct rfl _ _ gb386 64 #[.int .i64 0, .int .i64 0, .int .i64 0, .slice none 0 0, .slice none 0 0, .slice none 0 0] (0, 0) _ rfl (by (with_reducible repeat (first | refine blk_drewN ?_ _ | refine blk_drew ?_ | refine blk_alloc ?_ _)); refine blk_put (cs := #[.int .i64 0, .int .i64 0, .int .i64 0, .slice none 0 0, .slice none 0 0, .slice none 0 0]) ?_ 5 _ rfl; (with_reducible repeat (first | refine blk_drewN ?_ _ | refine blk_drew ?_ | refine blk_alloc ?_ _)); refine blk_put (cs := #[.int .i64 0, .int .i64 0, .int .i64 0, .slice none 0 0, .slice none 0 0, .slice none 0 0]) ?_ 4 _ rfl; (with_reducible repeat (first | refine blk_drewN ?_ _ | refine blk_drew ?_ | refine blk_alloc ?_ _)); refine blk_put (cs := #[.int .i64 0, .int .i64 0, .int .i64 0, .slice none 0 0, .slice none 0 0, .slice none 0 0]) ?_ 3 _ rfl; (with_reducible repeat (first | refine blk_drewN ?_ _ | refine blk_drew ?_ | refine blk_alloc ?_ _)); refine blk_put (cs := #[.int .i64 0, .int .i64 0, .int .i64 0, .slice none 0 0, .slice none 0 0, .slice none 0 0]) ?_ 2 _ rfl; (with_reducible repeat (first | refine blk_drewN ?_ _ | refine blk_drew ?_ | refine blk_alloc ?_ _)); refine blk_put (cs := #[.int .i64 0, .int .i64 0, .int .i64 0, .slice none 0 0, .slice none 0 0, .slice none 0 0]) ?_ 1 _ rfl; (with_reducible repeat (first | refine blk_drewN ?_ _ | refine blk_drew ?_ | refine blk_alloc ?_ _)); refine blk_put (cs := #[.int .i64 0, .int .i64 0, .int .i64 0, .slice none 0 0, .slice none 0 0, .slice none 0 0]) ?_ 0 _ rfl; (with_reducible repeat (first | refine blk_drewN ?_ _ | refine blk_drew ?_ | refine blk_alloc ?_ _)); exact BK386.out) Tryd.underlying64 rfl (by kernel_rfl)) rfl ?_
  exact ⟨_, _, _, oE, by first | exact Kd.R_nil _ _ _ _ _ | exact Kd.N_nil _ _ _ _ _ | exact Kd.V_nil _ _ _ _ _ | exact Kd.Q_nil _ _ _ _ _ | exact Kd.S_nil _ _ _ _ _, by first | exact Kd.R_nil _ _ _ _ _ | exact Kd.N_nil _ _ _ _ _ | exact Kd.V_nil _ _ _ _ _ | exact Kd.Q_nil _ _ _ _ _ | exact Kd.S_nil _ _ _ _ _, by first | exact Kd.R_nil _ _ _ _ _ | exact Kd.N_nil _ _ _ _ _ | exact Kd.V_nil _ _ _ _ _ | exact Kd.Q_nil _ _ _ _ _ | exact Kd.S_nil _ _ _ _ _, oB⟩

/-! ### laws_markInode: function 50 -/
def laws_markInode.f (k : Nat) (a0_0 : Int) (a0_1 : Int) (a0_2 : Int) (l0_3 : List Int) (l0_4 : List (S91)) (l0_5 : List (S87)) (a1 : Int) : Option (Int × List Int × (List (S91)) × (List (S87))) := (laws_markByteS.f k l0_3 a1).bind fun bt404 => ((laws_markEntS.f k l0_4 bt404.1).bind fun bt406 => ((laws_markAttrS.f k l0_5 bt406.1).bind fun bt408 => (some (bt408.1, bt404.2, bt406.2, bt408.2))))
set_option maxHeartbeats 8000000 in
set_option maxRecDepth 100000 in
theorem laws_markInode.calls (k : Nat) (a0_0 : Int) (a0_1 : Int) (a0_2 : Int) (P0_3_ : Nat → Prop) (u9000_ : Value) (l0_3 : List Int) (P0_4_ : Nat → Prop) (u9001_ : Value) (l0_4 : List (S91)) (P0_5_ : Nat → Prop) (u9002_ : Value) (l0_5 : List (S87)) (a1 : Int) (r1 : Int) (r2 : List Int) (r3 : List (S91)) (r4 : List (S87)) (w0 w : World) (hB : Below w0.heap.size w0 w) (ho0_3 : Kd.R (Kd.int .u8) 5 w w0.heap.size P0_3_ u9000_ l0_3) (ho0_4 : Kd.R k91 91 w w0.heap.size P0_4_ u9001_ l0_4) (ho0_5 : Kd.R k87 87 w w0.heap.size P0_5_ u9002_ l0_5) (h : laws_markInode.f k a0_0 a0_1 a0_2 l0_3 l0_4 l0_5 a1 = some (r1, r2, r3, r4)) :
  Calls Tryd.prog 50 #[.agg #[.int .i64 a0_0, .int .i64 a0_1, .int .i64 a0_2, u9000_, u9001_, u9002_], .int .i64 a1] w fun e w' => e = .returned (.int .i64 r1) ∧ Kd.R (Kd.int .u8) 5 w' w0.heap.size (fun k_ => ((P0_3_ k_ ∨ P0_4_ k_ ∨ P0_5_ k_) ∨ w.heap.size ≤ k_)) u9000_ r2 ∧ Kd.R k91 91 w' w0.heap.size (fun k_ => ((P0_3_ k_ ∨ P0_4_ k_ ∨ P0_5_ k_) ∨ w.heap.size ≤ k_)) u9001_ r3 ∧ Kd.R k87 87 w' w0.heap.size (fun k_ => ((P0_3_ k_ ∨ P0_4_ k_ ∨ P0_5_ k_) ∨ w.heap.size ≤ k_)) u9002_ r4 ∧ Below w0.heap.size w0 w' ∧ Kept w w' (fun k_ => P0_3_ k_ ∨ P0_4_ k_ ∨ P0_5_ k_) := by
 have hu64 := Tryd.underlying64
 have HO0_3 := Aside0.mk (show Kd.R (Kd.int .u8) 5 w w0.heap.size (fun k_ => ((P0_3_ k_ ∨ P0_4_ k_ ∨ P0_5_ k_) ∨ w.heap.size ≤ k_)) u9000_ l0_3 from Kd.R_mono ho0_3 (fun k_ hk => (.inl (.inl hk))))
 have HO0_4 := Aside0.mk (show Kd.R k91 91 w w0.heap.size (fun k_ => ((P0_3_ k_ ∨ P0_4_ k_ ∨ P0_5_ k_) ∨ w.heap.size ≤ k_)) u9001_ l0_4 from Kd.R_mono ho0_4 (fun k_ hk => (.inl (.inr (.inl hk)))))
 have HO0_5 := Aside0.mk (show Kd.R k87 87 w w0.heap.size (fun k_ => ((P0_3_ k_ ∨ P0_4_ k_ ∨ P0_5_ k_) ∨ w.heap.size ≤ k_)) u9002_ l0_5 from Kd.R_mono ho0_5 (fun k_ hk => (.inl (.inr (.inr hk)))))
 have HK := Aside0.mk (Kept.refl w (fun k_ => P0_3_ k_ ∨ P0_4_ k_ ∨ P0_5_ k_))
 have HW0 := Aside0.mk hB.size
 have HB := Aside0.mk hB
 clear hB
 unfold laws_markInode.f at h
 have H := h
 clear h
 replace H := bA H
 obtain ⟨⟨t404, t405⟩, A3, H⟩ := H
 try dsimp only at H
 replace H := bA H
 obtain ⟨⟨t406, t407⟩, A4, H⟩ := H
 try dsimp only at H
 replace H := bA H
 obtain ⟨⟨t408, t409⟩, A5, H⟩ := H
 try dsimp only at H
 simp only [Option.some.injEq, Prod.mk.injEq] at H
 obtain ⟨rfl, rfl, rfl, rfl⟩ := H
 obtain ⟨Ao6, co6, eo6⟩ := Kd.R_slice HO0_3.out
 subst eo6
 obtain ⟨Ao7, co7, eo7⟩ := Kd.R_slice HO0_4.out
 subst eo7
 obtain ⟨Ao8, co8, eo8⟩ := Kd.R_slice HO0_5.out
 subst eo8
 go_enter Tryd.func50, Tryd.ntmps50
 go_wp2_with (first | ((with_reducible refine gate_dst (N := 2) rfl ?_); refine bx_ 2 #[.int .i64 a0_0, .int .i64 a0_1, .int .i64 a0_2, .slice Ao6 l0_3.length co6, .slice Ao7 l0_4.length co7, .slice Ao8 l0_5.length co8] 64 ?_; intro gb403 hg w9 hbox hb; have BK403 := Aside0.mk (hbox); have GW403 := Aside0.mk ((by rw [hg]; exact (by first | exact HK.out.1 | exact (show Kept w _ (fun k_ => P0_3_ k_ ∨ P0_4_ k_ ∨ P0_5_ k_) from oK).1) : w.heap.size ≤ gb403)); have GE403 := Aside0.mk ((by rw [hg]; exact (below_size oB) : w0.heap.size ≤ gb403)); replace HO0_3 := kr_ HO0_3 hb; replace HO0_4 := kr_ HO0_4 hb; replace HO0_5 := kr_ HO0_5 hb; replace HK := Aside0.mk (Kept.below (S := (fun k_ => P0_3_ k_ ∨ P0_4_ k_ ∨ P0_5_ k_)) oK hb); replace HB := Aside0.mk (below_step oB hb); clear hb hbox hg; obtain ⟨⟨_, _, _, _, _, _⟩, _, _, _, _, _, _⟩ := z6 BK403) | ((with_reducible refine gate_callee (f := 43) rfl ?_); refine gl_ 8 Tryd.func43 (laws_markByteS.calls k (fun k_ => some k_ = (.slice Ao6 l0_3.length co6 : Value).ownBlock) (.slice Ao6 l0_3.length co6) l0_3 a1 t404 t405 w0 _ ?side1 ?side2 A3.out) ?_; (case side1 => repeat (first | (with_reducible first | exact HB.out | apply below_alloc | apply pw_below_drewN | apply below_drew1 | refine below_set ?_ GE403.out) | exact HB.out)); (case side2 => exact Kd.R_tight rfl HO0_3.out); rintro e w11 ⟨rfl, hy0, hb, hkp⟩; refine ⟨_, rfl, ?_⟩; replace HO0_4 := Aside0.mk (Kd.R_mono (ok' := fun k_ => ((P0_3_ k_ ∨ P0_4_ k_ ∨ P0_5_ k_) ∨ w.heap.size ≤ k_)) (Kd.R_keptB ((Kd.R_apart' HO0_4.out (Kd.R_typed HO0_3.out) (by decide))) hkp (fun k_ hk_ hs_ => (hk_.2) hs_)) (fun k_ hk_ => hk_.1.1)); replace HO0_5 := Aside0.mk (Kd.R_mono (ok' := fun k_ => ((P0_3_ k_ ∨ P0_4_ k_ ∨ P0_5_ k_) ∨ w.heap.size ≤ k_)) (Kd.R_keptB ((Kd.R_apart' HO0_5.out (Kd.R_typed HO0_3.out) (by decide))) hkp (fun k_ hk_ hs_ => (hk_.2) hs_)) (fun k_ hk_ => hk_.1.1)); replace BK403 := Aside0.mk (blk_kept (oF BK403) hkp (fun hs_ => (fun e_ => (Kd.R_ne HO0_3.out BK403.out (by decide)) e_) hs_)); replace HK := Aside0.mk (Kept.then_ (S := (fun k_ => P0_3_ k_ ∨ P0_4_ k_ ∨ P0_5_ k_)) oK hkp (fun k_ hs_ => (fun e_ => (HO0_3.out.1 k_ e_.symm)) hs_)); replace HO0_3 := Aside0.mk (Kd.R_reok rfl hy0 (fun k_ e_ => HO0_3.out.1 k_ e_)); replace HB := Aside0.mk (hb); (try clear hkp); (try clear hy0); obtain ⟨⟨_, _, _, _, _, _⟩, _, _, _, _, _, _⟩ := z6 BK403) | ((with_reducible refine gate_callee (f := 75) rfl ?_); refine gl_ 12 Tryd.func75 (laws_markEntS.calls k (fun k_ => some k_ = (.slice Ao7 l0_4.length co7 : Value).ownBlock) (.slice Ao7 l0_4.length co7) l0_4 t404 t406 t407 w0 _ ?side1 ?side2 A4.out) ?_; (case side1 => repeat (first | (with_reducible first | exact HB.out | apply below_alloc | apply pw_below_drewN | apply below_drew1 | refine below_set ?_ GE403.out) | exact HB.out)); (case side2 => exact Kd.R_tight rfl HO0_4.out); rintro e w13 ⟨rfl, hy0, hb, hkp⟩; refine ⟨_, rfl, ?_⟩; replace HO0_3 := Aside0.mk (Kd.R_mono (ok' := fun k_ => ((P0_3_ k_ ∨ P0_4_ k_ ∨ P0_5_ k_) ∨ w.heap.size ≤ k_)) (Kd.R_keptB ((Kd.R_apart' HO0_3.out (Kd.R_typed HO0_4.out) (by decide))) hkp (fun k_ hk_ hs_ => (hk_.2) hs_)) (fun k_ hk_ => hk_.1.1)); replace HO0_5 := Aside0.mk (Kd.R_mono (ok' := fun k_ => ((P0_3_ k_ ∨ P0_4_ k_ ∨ P0_5_ k_) ∨ w.heap.size ≤ k_)) (Kd.R_keptB ((Kd.R_apart' HO0_5.out (Kd.R_typed HO0_4.out) (by decide))) hkp (fun k_ hk_ hs_ => (hk_.2) hs_)) (fun k_ hk_ => hk_.1.1)); replace BK403 := Aside0.mk (blk_kept (oF BK403) hkp (fun hs_ => (fun e_ => (Kd.R_ne HO0_4.out BK403.out (by decide)) e_) hs_)); replace HK := Aside0.mk (Kept.then_ (S := (fun k_ => P0_3_ k_ ∨ P0_4_ k_ ∨ P0_5_ k_)) oK hkp (fun k_ hs_ => (fun e_ => (HO0_4.out.1 k_ e_.symm)) hs_)); replace HO0_4 := Aside0.mk (Kd.R_reok rfl hy0 (fun k_ e_ => HO0_4.out.1 k_ e_)); replace HB := Aside0.mk (hb); (try clear hkp); (try clear hy0); obtain ⟨⟨_, _, _, _, _, _⟩, _, _, _, _, _, _⟩ := z6 BK403) | ((with_reducible refine gate_callee (f := 76) rfl ?_); refine gl_ 16 Tryd.func76 (laws_markAttrS.calls k (fun k_ => some k_ = (.slice Ao8 l0_5.length co8 : Value).ownBlock) (.slice Ao8 l0_5.length co8) l0_5 t406 t408 t409 w0 _ ?side1 ?side2 A5.out) ?_; (case side1 => repeat (first | (with_reducible first | exact HB.out | apply below_alloc | apply pw_below_drewN | apply below_drew1 | refine below_set ?_ GE403.out) | exact HB.out)); (case side2 => exact Kd.R_tight rfl HO0_5.out); rintro e w15 ⟨rfl, hy0, hb, hkp⟩; refine ⟨_, rfl, ?_⟩; replace HO0_3 := Aside0.mk (Kd.R_mono (ok' := fun k_ => ((P0_3_ k_ ∨ P0_4_ k_ ∨ P0_5_ k_) ∨ w.heap.size ≤ k_)) (Kd.R_keptB ((Kd.R_apart' HO0_3.out (Kd.R_typed HO0_5.out) (by decide))) hkp (fun k_ hk_ hs_ => (hk_.2) hs_)) (fun k_ hk_ => hk_.1.1)); replace HO0_4 := Aside0.mk (Kd.R_mono (ok' := fun k_ => ((P0_3_ k_ ∨ P0_4_ k_ ∨ P0_5_ k_) ∨ w.heap.size ≤ k_)) (Kd.R_keptB ((Kd.R_apart' HO0_4.out (Kd.R_typed HO0_5.out) (by decide))) hkp (fun k_ hk_ hs_ => (hk_.2) hs_)) (fun k_ hk_ => hk_.1.1)); replace BK403 := Aside0.mk (blk_kept (oF BK403) hkp (fun hs_ => (fun e_ => (Kd.R_ne HO0_5.out BK403.out (by decide)) e_) hs_)); replace HK := Aside0.mk (Kept.then_ (S := (fun k_ => P0_3_ k_ ∨ P0_4_ k_ ∨ P0_5_ k_)) oK hkp (fun k_ hs_ => (fun e_ => (HO0_5.out.1 k_ e_.symm)) hs_)); replace HO0_5 := Aside0.mk (Kd.R_reok rfl hy0 (fun k_ e_ => HO0_5.out.1 k_ e_)); replace HB := Aside0.mk (hb); (try clear hkp); (try clear hy0)))
 go_ret
 exact ⟨oE, oR HO0_3, oR HO0_4, oR HO0_5, oB, oK⟩

/-! ### laws_heldByteS: function 44 -/
def laws_heldByteS.l0 : Nat → List Int → Int → Int → Option (Int)
 | 0, _, _, _ => none
 | k + 1, x0, x1, x5 => if x5 < (x0.length : Int) then (if 0 ≤ x5 then (if (rd x0 x5) = ((x1) % 256) then (laws_heldByteS.l0 k x0 (wrap64 (x1 + 1)) (wrap64 (x5 + 1))) else (some (-1))) else (none)) else (some x1)
def laws_heldByteS.f (k : Nat) (l0 : List Int) (a1 : Int) : Option (Int) := laws_heldByteS.l0 k l0 a1 0
set_option maxHeartbeats 8000000 in
set_option maxRecDepth 100000 in
theorem laws_heldByteS.calls (k : Nat) (A0 : Option Addr) (c0 : Nat) (l0 : List Int) (a1 : Int) (r : Int) (w : World) (hr0 : Kd.C (Kd.int .u8) w A0 l0.length l0) (hc0 : l0.length ≤ c0) (h : laws_heldByteS.f k l0 a1 = some r) :
  Calls Tryd.prog 44 #[.slice A0 l0.length c0, .int .i64 a1] w fun e w' => e = .returned (.int .i64 r) ∧ Drawn0 w w' := by
 have HR0 := Aside0.mk hr0
 have HC0 := Aside0.mk hc0
 clear hr0 hc0
 unfold laws_heldByteS.f at h
 have H := h
 clear h
 have H' := Aside0.mk H
 clear H
 go_enter Tryd.func44, Tryd.ntmps44
 go_wp2
 go_loopg [1, 5] k (fun kq v1 v5 w' => ∃ (x1_1 : Int) (x5_1 : Int), v1 = .int .i64 x1_1 ∧ v5 = .int .i64 x5_1 ∧ Aside0 (laws_heldByteS.l0 kq l0 x1_1 x5_1 = some r) ∧ Aside0 (kq ≤ k) ∧ Drawn0 w w')
 case atStart => exact ⟨(a1), (0), oS, oS, H', ⟨Nat.le_refl _⟩, oD⟩
 case round =>
  clear H'
  obtain ⟨x1_1, x5_1, rfl, rfl, HA, HK1, ⟨m1, rfl⟩⟩ := hrel
  cases gk with
  | zero => exact absurd HA.out (by simp [laws_heldByteS.l0])
  | succ k1 =>
   have H := HA.out
   clear HA
   simp only [laws_heldByteS.l0] at H
   replace H := itD H
   rcases H with ⟨c3b0, H⟩ | ⟨c3b0, H⟩
   ·replace H := itD H
    rcases H with ⟨c4b0, H⟩ | ⟨c4b0, H⟩
    ·by_cases c5 : (rd l0 x5_1) = ((x1_1) % 256)
     ·rw [if_pos c5] at H
      have c5b0 : ((rd l0 x5_1) == ((x1_1) % 256)) = true := beq_iff_eq.mpr c5
      have c5b1 : ((rd l0 x5_1) != ((x1_1) % 256)) = false := bne_eq_false_iff_eq.mpr c5
      clear c5
      have H' := Aside0.mk H
      clear H
      have p410 : (0 ≤ (x5_1 : Int)) = True := oT
      have q410 : (x5_1 < (l0.length : Int)) = True := oT
      obtain ⟨ad410, e410, hx410_0⟩ := Kd.at_int HR0.out x5_1 oa oa
      cases e410
      go_wp2
      go_roundg k1
      case measure => have := HK1.out; omega
      case rel => exact ⟨(wrap64 (x1_1 + 1)), (wrap64 (x5_1 + 1)), oS, oS, H', ⟨by have := HK1.out; omega⟩, oD⟩
     ·rw [if_neg c5] at H
      have c5b0 : ((rd l0 x5_1) == ((x1_1) % 256)) = false := beq_eq_false_iff_ne.mpr c5
      have c5b1 : ((rd l0 x5_1) != ((x1_1) % 256)) = true := bne_iff_ne.mpr c5
      obtain rfl := Option.some.inj H
      have p410 : (0 ≤ (x5_1 : Int)) = True := oT
      have q410 : (x5_1 < (l0.length : Int)) = True := oT
      obtain ⟨ad410, e410, hx410_0⟩ := Kd.at_int HR0.out x5_1 oa oa
      cases e410
      go_wp2
      go_ret
      exact ⟨oS, oD⟩
    ·cases H
   ·obtain rfl := Option.some.inj H
    go_wp2
    go_ret
    exact ⟨oS, oD⟩

/-! ### laws_heldEntS: function 77 -/
def laws_heldEntS.l0 : Nat → List (S91) → Int → Int → Option (Int)
 | 0, _, _, _ => none
 | k + 1, x0, x1, x5 => if x5 < (x0.length : Int) then (if 0 ≤ x5 then ((laws_markText.f k x1).bind fun t412 => (if ((rd_T91 x0 x5).f0).toList = t412.toList then (if ((rd_T91 x0 x5).f1) = (wrap64 (x1 + 1)) then (laws_heldEntS.l0 k x0 (wrap64 ((wrap64 (x1 + 1)) + 1)) (wrap64 (x5 + 1))) else (some (-1))) else (some (-1)))) else (none)) else (some x1)
def laws_heldEntS.f (k : Nat) (l0 : List (S91)) (a1 : Int) : Option (Int) := laws_heldEntS.l0 k l0 a1 0
def laws_heldEntS.T4 : Bool × List (List Nat × List Nat) := (true, [([], []), ([], []), ([0, 1], [0, 1]), ([2], [2]), ([3], [3]), ([], []), ([5], [5]), ([4, 6], [4, 6])])
def laws_heldEntS.B4 : List Nat := [0, 0, 3, 7, 15, 0, 32, 127]
theorem laws_heldEntS.tab4 : rtab .any (opsOf Tryd.f77 4) = laws_heldEntS.T4 := by kernel_rfl
theorem laws_heldEntS.bits4 : waitsOk laws_heldEntS.T4.2 laws_heldEntS.B4 = true := by kernel_rfl
set_option maxHeartbeats 8000000 in
set_option maxRecDepth 100000 in
theorem laws_heldEntS.calls (k : Nat) (A0 : Option Addr) (c0 : Nat) (l0 : List (S91)) (a1 : Int) (r : Int) (w : World) (hr0 : Kd.C k91 w A0 l0.length l0) (hc0 : l0.length ≤ c0) (h : laws_heldEntS.f k l0 a1 = some r) :
  Calls Tryd.prog 77 #[.slice A0 l0.length c0, .int .i64 a1] w fun e w' => e = .returned (.int .i64 r) ∧ Below w.heap.size w w' := by
 have HR0 := Aside0.mk hr0
 have HC0 := Aside0.mk hc0
 clear hr0 hc0
 have HB := Aside0.mk (Below.refl w.heap.size w)
 unfold laws_heldEntS.f at h
 have H := h
 clear h
 have H' := Aside0.mk H
 clear H
 go_enter Tryd.func77, Tryd.ntmps77
 go_wp2
 go_loopg [1, 5] k (fun kq v1 v5 w' => ∃ (x1_1 : Int) (x5_1 : Int), v1 = .int .i64 x1_1 ∧ v5 = .int .i64 x5_1 ∧ Aside0 (laws_heldEntS.l0 kq l0 x1_1 x5_1 = some r) ∧ Aside0 (kq ≤ k) ∧ Aside0 (Below w.heap.size w w'))
 case atStart => exact ⟨(a1), (0), oS, oS, H', ⟨Nat.le_refl _⟩, ⟨oB⟩⟩
 case round =>
  clear H'
  obtain ⟨x1_1, x5_1, rfl, rfl, HA, HK1, HB⟩ := hrel
  cases gk with
  | zero => exact absurd HA.out (by simp [laws_heldEntS.l0])
  | succ k1 =>
   have H := HA.out
   clear HA
   simp only [laws_heldEntS.l0] at H
   replace H := itD H
   rcases H with ⟨c3b0, H⟩ | ⟨c3b0, H⟩
   ·replace H := itD H
    rcases H with ⟨c4b0, H⟩ | ⟨c4b0, H⟩
    ·replace H := bA H
     obtain ⟨t412, A5, H⟩ := H
     try dsimp only at H
     by_cases c6 : ((rd_T91 l0 x5_1).f0).toList = t412.toList
     ·rw [if_pos c6] at H
      have c6b0 : (((rd_T91 l0 x5_1).f0).toList == t412.toList) = true := beq_iff_eq.mpr c6
      have c6b1 : (((rd_T91 l0 x5_1).f0).toList != t412.toList) = false := bne_eq_false_iff_eq.mpr c6
      clear c6
      by_cases c7 : ((rd_T91 l0 x5_1).f1) = (wrap64 (x1_1 + 1))
      ·rw [if_pos c7] at H
       have c7b0 : (((rd_T91 l0 x5_1).f1) == (wrap64 (x1_1 + 1))) = true := beq_iff_eq.mpr c7
       have c7b1 : (((rd_T91 l0 x5_1).f1) != (wrap64 (x1_1 + 1))) = false := bne_eq_false_iff_eq.mpr c7
       clear c7
       have H' := Aside0.mk H
       clear H
       try go_wp2
       replace HB := Aside0.mk (below_drew1 HB.out)
       have p411 : (0 ≤ (x5_1 : Int)) = True := oT
       have q411 : (x5_1 < (l0.length : Int)) = True := oT
       obtain ⟨ad411, e411, hx411_0, hx411_1⟩ := at_T91 HR0.out x5_1 oa oa
       have hw411_1 := hx411_1
       have hw411_0 := hx411_0
       cases e411
       replace hx411_0 := cB HB hx411_0
       replace hx411_1 := cB HB hx411_1
       refine st_ 8 (fun w' => w'.cell? (ad411.add ((x5_1).toNat * 2)) = some (.string ((rd_T91 l0 x5_1).f0)) ∧ w'.cell? ⟨(ad411.add ((x5_1).toNat * 2)).block, (ad411.add ((x5_1).toNat * 2)).off + 1, none⟩ = some (.int .i64 ((rd_T91 l0 x5_1).f1))) laws_heldEntS.tab4 laws_heldEntS.bits4 oH (fun hHeld HT_ HW_ => ?_)
       generalize wr.drew = w8 at HB hx411_0 hx411_1 hHeld ⊢
       refine pu_ 0 12 HT_ ?_
       refine pu_ 1 13 HT_ ?_
       refine pu_ 2 14 HT_ ?_
       refine pu_ 3 15 HT_ ?_
       refine pu_ 5 17 HT_ ?_
       refine ta_ 4 16 HT_ HW_ hHeld ?_
       refine on_ 6 18 HT_ (fun K hK => ?_)
       refine gr_ 18 Tryd.func56 (laws_markText.calls k1 x1_1 t412 _ A5.out) ?_
       rintro e w9 ⟨rfl, hb⟩
       refine ⟨_, rfl, ?_⟩
       replace HB := Aside0.mk (below_step oB hb)
       refine hk_ hK 18 oH (fun hHeld => ?_)
       clear hK K
       refine pu_ 7 19 HT_ ?_
       refine dn_ HT_ ?_
       have p413 : (0 ≤ (x5_1 : Int)) = True := oT
       have q413 : (x5_1 < (l0.length : Int)) = True := oT
       obtain ⟨ad413, e413, hx413_0, hx413_1⟩ := at_T91 HR0.out x5_1 oa oa
       obtain rfl : ad411 = ad413 := (by injection e413)
       replace hx413_0 := cB HB hx413_0
       replace hx413_1 := cB HB hx413_1
       try go_wp2
       go_roundg k1
       case measure => have := HK1.out; omega
       case rel => exact ⟨(wrap64 ((wrap64 (x1_1 + 1)) + 1)), (wrap64 (x5_1 + 1)), oS, oS, H', ⟨by have := HK1.out; omega⟩, ⟨oB⟩⟩
      ·rw [if_neg c7] at H
       have c7b0 : (((rd_T91 l0 x5_1).f1) == (wrap64 (x1_1 + 1))) = false := beq_eq_false_iff_ne.mpr c7
       have c7b1 : (((rd_T91 l0 x5_1).f1) != (wrap64 (x1_1 + 1))) = true := bne_iff_ne.mpr c7
       obtain rfl := Option.some.inj H
       try go_wp2
       replace HB := Aside0.mk (below_drew1 HB.out)
       have p411 : (0 ≤ (x5_1 : Int)) = True := oT
       have q411 : (x5_1 < (l0.length : Int)) = True := oT
       obtain ⟨ad411, e411, hx411_0, hx411_1⟩ := at_T91 HR0.out x5_1 oa oa
       have hw411_1 := hx411_1
       have hw411_0 := hx411_0
       cases e411
       replace hx411_0 := cB HB hx411_0
       replace hx411_1 := cB HB hx411_1
       refine st_ 8 (fun w' => w'.cell? (ad411.add ((x5_1).toNat * 2)) = some (.string ((rd_T91 l0 x5_1).f0)) ∧ w'.cell? ⟨(ad411.add ((x5_1).toNat * 2)).block, (ad411.add ((x5_1).toNat * 2)).off + 1, none⟩ = some (.int .i64 ((rd_T91 l0 x5_1).f1))) laws_heldEntS.tab4 laws_heldEntS.bits4 oH (fun hHeld HT_ HW_ => ?_)
       generalize wr.drew = w10 at HB hx411_0 hx411_1 hHeld ⊢
       refine pu_ 0 12 HT_ ?_
       refine pu_ 1 13 HT_ ?_
       refine pu_ 2 14 HT_ ?_
       refine pu_ 3 15 HT_ ?_
       refine pu_ 5 17 HT_ ?_
       refine ta_ 4 16 HT_ HW_ hHeld ?_
       refine on_ 6 18 HT_ (fun K hK => ?_)
       refine gr_ 18 Tryd.func56 (laws_markText.calls k1 x1_1 t412 _ A5.out) ?_
       rintro e w11 ⟨rfl, hb⟩
       refine ⟨_, rfl, ?_⟩
       replace HB := Aside0.mk (below_step oB hb)
       refine hk_ hK 18 oH (fun hHeld => ?_)
       clear hK K
       refine pu_ 7 19 HT_ ?_
       refine dn_ HT_ ?_
       have p413 : (0 ≤ (x5_1 : Int)) = True := oT
       have q413 : (x5_1 < (l0.length : Int)) = True := oT
       obtain ⟨ad413, e413, hx413_0, hx413_1⟩ := at_T91 HR0.out x5_1 oa oa
       obtain rfl : ad411 = ad413 := (by injection e413)
       replace hx413_0 := cB HB hx413_0
       replace hx413_1 := cB HB hx413_1
       try go_wp2
       go_ret
       exact ⟨oE, oB⟩
     ·rw [if_neg c6] at H
      have c6b0 : (((rd_T91 l0 x5_1).f0).toList == t412.toList) = false := beq_eq_false_iff_ne.mpr c6
      have c6b1 : (((rd_T91 l0 x5_1).f0).toList != t412.toList) = true := bne_iff_ne.mpr c6
      obtain rfl := Option.some.inj H
      try go_wp2
      replace HB := Aside0.mk (below_drew1 HB.out)
      have p411 : (0 ≤ (x5_1 : Int)) = True := oT
      have q411 : (x5_1 < (l0.length : Int)) = True := oT
      obtain ⟨ad411, e411, hx411_0, hx411_1⟩ := at_T91 HR0.out x5_1 oa oa
      have hw411_1 := hx411_1
      have hw411_0 := hx411_0
      cases e411
      replace hx411_0 := cB HB hx411_0
      replace hx411_1 := cB HB hx411_1
      refine st_ 8 (fun w' => w'.cell? (ad411.add ((x5_1).toNat * 2)) = some (.string ((rd_T91 l0 x5_1).f0)) ∧ w'.cell? ⟨(ad411.add ((x5_1).toNat * 2)).block, (ad411.add ((x5_1).toNat * 2)).off + 1, none⟩ = some (.int .i64 ((rd_T91 l0 x5_1).f1))) laws_heldEntS.tab4 laws_heldEntS.bits4 oH (fun hHeld HT_ HW_ => ?_)
      generalize wr.drew = w12 at HB hx411_0 hx411_1 hHeld ⊢
      refine pu_ 0 12 HT_ ?_
      refine pu_ 1 13 HT_ ?_
      refine pu_ 2 14 HT_ ?_
      refine pu_ 3 15 HT_ ?_
      refine pu_ 5 17 HT_ ?_
      refine ta_ 4 16 HT_ HW_ hHeld ?_
      refine on_ 6 18 HT_ (fun K hK => ?_)
      refine gr_ 18 Tryd.func56 (laws_markText.calls k1 x1_1 t412 _ A5.out) ?_
      rintro e w13 ⟨rfl, hb⟩
      refine ⟨_, rfl, ?_⟩
      replace HB := Aside0.mk (below_step oB hb)
      refine hk_ hK 18 oH (fun hHeld => ?_)
      clear hK K
      refine pu_ 7 19 HT_ ?_
      refine dn_ HT_ ?_
      try go_wp2
      go_ret
      exact ⟨oE, oB⟩
    ·cases H
   ·obtain rfl := Option.some.inj H
    go_wp2
    go_ret
    exact ⟨oE, oB⟩

end Go.Proofs.YtkfcmpalbhmmaaaDoor.P
