-- By this session's own program (wip/myprint.py) out of the translation; Lean checks it.
import Derived.Test.YtkcfmbggdkkfeaaGreatDoorPx0
namespace Go.Proofs.YtkcfmbggdkkfeaaGreatDoor.P
open Go.RowKit Go.Proofs.YtkcfmbggdkkfeaaGreatDoorW.PrintWords Go.Proofs.YtkcfmbggdkkfeaaGreatDoorW.PrintLast Go.Proofs.YtkcfmbggdkkfeaaGreatDoorW.PrintMore
attribute [local go_sem] max2_int min2_int max_two min_two max_three min_three max_four min_four   -- for this text's walks alone
set_option linter.unusedVariables false
set_option linter.unusedSimpArgs false

/-! ### slices_Clone_byte_byte: function 51 -/
def slices_Clone_byte_byte.f (l0 : List Int) : Option (List Int) := (some (([] : List Int) : List Int)).bind fun y105 => (if y105.length + l0.length < 140737488355328 then (some (y105 ++ l0)) else (none))
set_option maxHeartbeats 8000000 in
set_option maxRecDepth 100000 in
theorem slices_Clone_byte_byte.calls_some (a0_ : Addr) (c0 : Nat) (l0 : List Int) (r : List Int) (w : World) (hr0 : Kd.C (Kd.int .u8) w (some a0_) l0.length l0) (hc0 : l0.length ≤ c0) (h : slices_Clone_byte_byte.f l0 = some r) :
  Calls Tryz.prog 51 #[.slice (some a0_) l0.length c0] w fun e w' => ∃ v0_ : Value, e = .returned (v0_) ∧ Kd.R (Kd.int .u8) 5 w' w.heap.size (fun _ => True) v0_ r ∧ Below w.heap.size w w' := by
 have HR0 := Aside0.mk hr0
 have HC0 := Aside0.mk hc0
 clear hr0 hc0
 have HB := Aside0.mk (Below.refl w.heap.size w)
 unfold slices_Clone_byte_byte.f at h
 have H := h
 clear h
 obtain ⟨y105, hy105⟩ : ∃ y_ : List Int, y_ = (([] : List Int)) := ⟨_, rfl⟩
 replace H : (if y105.length + l0.length < 140737488355328 then (some (y105 ++ l0)) else (none)) = some r := by first | (rw [hy105]; with_reducible exact H) | (have H2_ := (Option.bind_some _ _).symm.trans H; rw [hy105]; with_reducible exact H2_) | (have H2_ := (Option.bind_some _ _).symm.trans H; with_reducible exact H2_) | with_reducible exact H | (rw [hy105]; exact H) | exact H
 have Ny105 := Aside0.mk hy105
 clear hy105
 by_cases c2 : y105.length + l0.length < 140737488355328
 ·rw [if_pos c2] at H
  have LMc2 := Aside0.mk c2
  clear c2
  obtain ⟨y108, hy108⟩ : ∃ y_ : List Int, y_ = (y105 ++ l0) := ⟨_, rfl⟩
  replace H : (some y108) = some r := by first | (rw [hy108]; with_reducible exact H) | (have H2_ := (Option.bind_some _ _).symm.trans H; rw [hy108]; with_reducible exact H2_) | (have H2_ := (Option.bind_some _ _).symm.trans H; with_reducible exact H2_) | with_reducible exact H | (rw [hy108]; exact H) | exact H
  have Ny108 := Aside0.mk hy108
  clear hy108
  obtain rfl := Option.some.inj H
  have hq_ := Lib.run_eql_slice_nil (P := Tryz.prog) w 22 5 (some a0_) l0.length c0 0 0 (by kernel_rfl)
  go_enter Tryz.func51, Tryz.ntmps51
  go_wp2_with (first | ((with_reducible refine gate_dst (N := 5) rfl ?_); refine Kd.R_lit (Kd.int .u8) _ 5 ?hg (N := 5) ?hd (xs := ([] : List Int)) (inner := []) (ok := fun _ => True) (okp := fun _ => True) ?hr ?hp (fun _ hk => hk) trivial (Below.refl _ _) (Nat.le_refl _) (by simp) ?_; (case hd => rfl); (case hg => rfl); (case hr => first | (go_simp; done) | (go_simp; rfl)); (case hp => exact (Reps.none _ _)); intro v106 w3 ho4 hb hg_ hnew_; clear hg_ hnew_; (first | rw [← Ny105.out] at ho4 | (simp only [Int.reduceToNat] at ho4; rw [← Ny105.out] at ho4)); have HO107 := Aside0.mk (Kd.R_lower ho4 (below_size oB)); replace HB := Aside0.mk (below_step oB hb); clear hb ho4) | ((with_reducible refine gate_builtin (b := .append) (xs := #[.tmp 5, .tmp 6]) rfl ?_); at_builtin; refine Kd.R_append_rows (Kd.int .u8) (w0 := w) w.heap.size rfl (.tmp 5) (.tmp 6) 22 5 (.int .u8 0) 1 rfl Tryz.underlying22 info5 rfl (by decide) (by omega) v106 y105 l0 _ _ _ (fun _ => True) (fun _ => False) rfl rfl ?aO ?aR (fun _ _ h => h) (fun _ h => h.elim) ?aF ?aB ?aS ?aL ?_; (case aR => repeat (first | exact (Kd.C_below HR0.out HB.out) | (with_reducible refine Kd.C_alloc ?_ _) | (with_reducible refine Kd.C_drewN ?_ _) | (with_reducible refine Kd.C_drew ?_))); (case aB => exact oB); (case aF => exact (fun _ _ => trivial)); (case aO => exact (oR HO107)); (case aS => exact (below_size oB)); (case aL => have := LMc2.out; omega); intro v109 w5 ho hb hg hat; rw [← Ny108.out] at ho; have HO110 := Aside0.mk (ho); replace HB := Aside0.mk (hb); clear HO107; clear ho hb hg hat))
  go_ret
  exact ⟨_, oE, oR HO110, oB⟩
 ·rw [if_neg c2] at H
  exact absurd H (by simp)

set_option maxHeartbeats 8000000 in
set_option maxRecDepth 100000 in
theorem slices_Clone_byte_byte.calls (A0 : Option Addr) (c0 : Nat) (l0 : List Int) (r : List Int) (w : World) (hr0 : Kd.C (Kd.int .u8) w A0 l0.length l0) (hc0 : l0.length ≤ c0) (h : slices_Clone_byte_byte.f l0 = some r) :
  Calls Tryz.prog 51 #[.slice A0 l0.length c0] w fun e w' => ∃ v0_ : Value, e = .returned (v0_) ∧ Kd.R (Kd.int .u8) 5 w' w.heap.size (fun _ => True) v0_ r ∧ Below w.heap.size w w' := by
 rcases A0 with _ | a0_
 ·have hl_ : l0 = [] := by
   rcases Nat.eq_zero_or_pos l0.length with hz_ | hz_
   ·exact List.eq_nil_of_length_eq_zero hz_
   ·obtain ⟨ad_, he_, _⟩ := hr0.2.2 hz_
    cases he_
  subst hl_
  obtain rfl : r = [] := by
   simp [slices_Clone_byte_byte.f] at h
   exact h
  have hq_ := Lib.run_eql_slice_nil (P := Tryz.prog) w 22 5 none 0 c0 0 0 (by kernel_rfl)
  go_enter Tryz.func51, Tryz.ntmps51
  go_wp2
  go_ret
  exact ⟨_, rfl, Kd.R_nil _ _ _ _ _, Below.refl _ _⟩
 ·exact slices_Clone_byte_byte.calls_some a0_ c0 l0 r w hr0 hc0 h

/-! ### slices_Clone_Ent: function 82 -/
def slices_Clone_Ent.f (l0 : List (S65)) : Option ((List (S65))) := (some (([] : List (S65)) : List (S65))).bind fun y111 => (if y111.length + l0.length < 5864062014805 then (some (y111 ++ l0)) else (none))
set_option maxHeartbeats 8000000 in
set_option maxRecDepth 100000 in
theorem slices_Clone_Ent.calls_some (a0_ : Addr) (c0 : Nat) (l0 : List (S65)) (r : List (S65)) (w : World) (hr0 : Kd.C k65 w (some a0_) l0.length l0) (hc0 : l0.length ≤ c0) (h : slices_Clone_Ent.f l0 = some r) :
  Calls Tryz.prog 82 #[.slice (some a0_) l0.length c0] w fun e w' => ∃ v0_ : Value, e = .returned (v0_) ∧ Kd.R k65 65 w' w.heap.size (fun _ => True) v0_ r ∧ Below w.heap.size w w' := by
 have HR0 := Aside0.mk hr0
 have HC0 := Aside0.mk hc0
 clear hr0 hc0
 have HB := Aside0.mk (Below.refl w.heap.size w)
 unfold slices_Clone_Ent.f at h
 have H := h
 clear h
 obtain ⟨y111, hy111⟩ : ∃ y_ : List (S65), y_ = (([] : List (S65))) := ⟨_, rfl⟩
 replace H : (if y111.length + l0.length < 5864062014805 then (some (y111 ++ l0)) else (none)) = some r := by first | (rw [hy111]; with_reducible exact H) | (have H2_ := (Option.bind_some _ _).symm.trans H; rw [hy111]; with_reducible exact H2_) | (have H2_ := (Option.bind_some _ _).symm.trans H; with_reducible exact H2_) | with_reducible exact H | (rw [hy111]; exact H) | exact H
 have Ny111 := Aside0.mk hy111
 clear hy111
 by_cases c2 : y111.length + l0.length < 5864062014805
 ·rw [if_pos c2] at H
  have LMc2 := Aside0.mk c2
  clear c2
  obtain ⟨y114, hy114⟩ : ∃ y_ : List (S65), y_ = (y111 ++ l0) := ⟨_, rfl⟩
  replace H : (some y114) = some r := by first | (rw [hy114]; with_reducible exact H) | (have H2_ := (Option.bind_some _ _).symm.trans H; rw [hy114]; with_reducible exact H2_) | (have H2_ := (Option.bind_some _ _).symm.trans H; with_reducible exact H2_) | with_reducible exact H | (rw [hy114]; exact H) | exact H
  have Ny114 := Aside0.mk hy114
  clear hy114
  obtain rfl := Option.some.inj H
  have hq_ := Lib.run_eql_slice_nil (P := Tryz.prog) w 48 65 (some a0_) l0.length c0 0 0 (by kernel_rfl)
  go_enter Tryz.func82, Tryz.ntmps82
  go_wp2_with (first | ((with_reducible refine gate_dst (N := 5) rfl ?_); refine Kd.R_lit k65 _ 65 ?hg (N := 5) ?hd (xs := ([] : List (S65))) (inner := []) (ok := fun _ => True) (okp := fun _ => True) ?hr ?hp (fun _ hk => hk) trivial (Below.refl _ _) (Nat.le_refl _) (by simp) ?_; (case hd => rfl); (case hg => rfl); (case hr => first | (go_simp; done) | (go_simp; rfl)); (case hp => exact (Reps.none _ _)); intro v112 w3 ho4 hb hg_ hnew_; clear hg_ hnew_; (first | rw [← Ny111.out] at ho4 | (simp only [Int.reduceToNat] at ho4; rw [← Ny111.out] at ho4)); have HO113 := Aside0.mk (Kd.R_lower ho4 (below_size oB)); replace HB := Aside0.mk (below_step oB hb); clear hb ho4) | ((with_reducible refine gate_builtin (b := .append) (xs := #[.tmp 5, .tmp 6]) rfl ?_); at_builtin; refine Kd.R_append_rows k65 (w0 := w) w.heap.size rfl (.tmp 5) (.tmp 6) 48 65 (.agg #[(.string ⟨#[]⟩), (.int .i64 0)]) 24 rfl Tryz.underlying48 info65 rfl (by decide) (by omega) v112 y111 l0 _ _ _ (fun _ => True) (fun _ => False) rfl rfl ?aO ?aR (fun _ _ h => h) (fun _ h => h.elim) ?aF ?aB ?aS ?aL ?_; (case aR => repeat (first | exact (Kd.C_below HR0.out HB.out) | (with_reducible refine Kd.C_alloc ?_ _) | (with_reducible refine Kd.C_drewN ?_ _) | (with_reducible refine Kd.C_drew ?_))); (case aB => exact oB); (case aF => exact (fun _ _ => trivial)); (case aO => exact (oR HO113)); (case aS => exact (below_size oB)); (case aL => have := LMc2.out; omega); intro v115 w5 ho hb hg hat; rw [← Ny114.out] at ho; have HO116 := Aside0.mk (ho); replace HB := Aside0.mk (hb); clear HO113; clear ho hb hg hat))
  go_ret
  exact ⟨_, oE, oR HO116, oB⟩
 ·rw [if_neg c2] at H
  exact absurd H (by simp)

set_option maxHeartbeats 8000000 in
set_option maxRecDepth 100000 in
theorem slices_Clone_Ent.calls (A0 : Option Addr) (c0 : Nat) (l0 : List (S65)) (r : List (S65)) (w : World) (hr0 : Kd.C k65 w A0 l0.length l0) (hc0 : l0.length ≤ c0) (h : slices_Clone_Ent.f l0 = some r) :
  Calls Tryz.prog 82 #[.slice A0 l0.length c0] w fun e w' => ∃ v0_ : Value, e = .returned (v0_) ∧ Kd.R k65 65 w' w.heap.size (fun _ => True) v0_ r ∧ Below w.heap.size w w' := by
 rcases A0 with _ | a0_
 ·have hl_ : l0 = [] := by
   rcases Nat.eq_zero_or_pos l0.length with hz_ | hz_
   ·exact List.eq_nil_of_length_eq_zero hz_
   ·obtain ⟨ad_, he_, _⟩ := hr0.2.2 hz_
    cases he_
  subst hl_
  obtain rfl : r = [] := by
   simp [slices_Clone_Ent.f] at h
   exact h
  have hq_ := Lib.run_eql_slice_nil (P := Tryz.prog) w 48 65 none 0 c0 0 0 (by kernel_rfl)
  go_enter Tryz.func82, Tryz.ntmps82
  go_wp2
  go_ret
  exact ⟨_, rfl, Kd.R_nil _ _ _ _ _, Below.refl _ _⟩
 ·exact slices_Clone_Ent.calls_some a0_ c0 l0 r w hr0 hc0 h

/-! ### slices_Clone_Attr: function 95 -/
def slices_Clone_Attr.f (l0 : List (S71)) : Option ((List (S71))) := (some (([] : List (S71)) : List (S71))).bind fun y117 => (if y117.length + l0.length < 4398046511104 then (some (y117 ++ l0)) else (none))
set_option maxHeartbeats 8000000 in
set_option maxRecDepth 100000 in
theorem slices_Clone_Attr.calls_some (a0_ : Addr) (c0 : Nat) (l0 : List (S71)) (r : List (S71)) (w : World) (hr0 : Kd.C k71 w (some a0_) l0.length l0) (hc0 : l0.length ≤ c0) (h : slices_Clone_Attr.f l0 = some r) :
  Calls Tryz.prog 95 #[.slice (some a0_) l0.length c0] w fun e w' => ∃ v0_ : Value, e = .returned (v0_) ∧ Kd.R k71 71 w' w.heap.size (fun _ => True) v0_ r ∧ Below w.heap.size w w' := by
 have HR0 := Aside0.mk hr0
 have HC0 := Aside0.mk hc0
 clear hr0 hc0
 have HB := Aside0.mk (Below.refl w.heap.size w)
 unfold slices_Clone_Attr.f at h
 have H := h
 clear h
 obtain ⟨y117, hy117⟩ : ∃ y_ : List (S71), y_ = (([] : List (S71))) := ⟨_, rfl⟩
 replace H : (if y117.length + l0.length < 4398046511104 then (some (y117 ++ l0)) else (none)) = some r := by first | (rw [hy117]; with_reducible exact H) | (have H2_ := (Option.bind_some _ _).symm.trans H; rw [hy117]; with_reducible exact H2_) | (have H2_ := (Option.bind_some _ _).symm.trans H; with_reducible exact H2_) | with_reducible exact H | (rw [hy117]; exact H) | exact H
 have Ny117 := Aside0.mk hy117
 clear hy117
 by_cases c2 : y117.length + l0.length < 4398046511104
 ·rw [if_pos c2] at H
  have LMc2 := Aside0.mk c2
  clear c2
  obtain ⟨y120, hy120⟩ : ∃ y_ : List (S71), y_ = (y117 ++ l0) := ⟨_, rfl⟩
  replace H : (some y120) = some r := by first | (rw [hy120]; with_reducible exact H) | (have H2_ := (Option.bind_some _ _).symm.trans H; rw [hy120]; with_reducible exact H2_) | (have H2_ := (Option.bind_some _ _).symm.trans H; with_reducible exact H2_) | with_reducible exact H | (rw [hy120]; exact H) | exact H
  have Ny120 := Aside0.mk hy120
  clear hy120
  obtain rfl := Option.some.inj H
  have hq_ := Lib.run_eql_slice_nil (P := Tryz.prog) w 49 71 (some a0_) l0.length c0 0 0 (by kernel_rfl)
  go_enter Tryz.func95, Tryz.ntmps95
  go_wp2_with (first | ((with_reducible refine gate_dst (N := 5) rfl ?_); refine Kd.R_lit k71 _ 71 ?hg (N := 5) ?hd (xs := ([] : List (S71))) (inner := []) (ok := fun _ => True) (okp := fun _ => True) ?hr ?hp (fun _ hk => hk) trivial (Below.refl _ _) (Nat.le_refl _) (by simp) ?_; (case hd => rfl); (case hg => rfl); (case hr => first | (go_simp; done) | (go_simp; rfl)); (case hp => exact (Reps.none _ _)); intro v118 w3 ho4 hb hg_ hnew_; clear hg_ hnew_; (first | rw [← Ny117.out] at ho4 | (simp only [Int.reduceToNat] at ho4; rw [← Ny117.out] at ho4)); have HO119 := Aside0.mk (Kd.R_lower ho4 (below_size oB)); replace HB := Aside0.mk (below_step oB hb); clear hb ho4) | ((with_reducible refine gate_builtin (b := .append) (xs := #[.tmp 5, .tmp 6]) rfl ?_); at_builtin; refine Kd.R_append_rows k71 (w0 := w) w.heap.size rfl (.tmp 5) (.tmp 6) 49 71 (.agg #[(.string ⟨#[]⟩), (.string ⟨#[]⟩)]) 32 rfl Tryz.underlying49 info71 rfl (by decide) (by omega) v118 y117 l0 _ _ _ (fun _ => True) (fun _ => False) rfl rfl ?aO ?aR (fun _ _ h => h) (fun _ h => h.elim) ?aF ?aB ?aS ?aL ?_; (case aR => repeat (first | exact (Kd.C_below HR0.out HB.out) | (with_reducible refine Kd.C_alloc ?_ _) | (with_reducible refine Kd.C_drewN ?_ _) | (with_reducible refine Kd.C_drew ?_))); (case aB => exact oB); (case aF => exact (fun _ _ => trivial)); (case aO => exact (oR HO119)); (case aS => exact (below_size oB)); (case aL => have := LMc2.out; omega); intro v121 w5 ho hb hg hat; rw [← Ny120.out] at ho; have HO122 := Aside0.mk (ho); replace HB := Aside0.mk (hb); clear HO119; clear ho hb hg hat))
  go_ret
  exact ⟨_, oE, oR HO122, oB⟩
 ·rw [if_neg c2] at H
  exact absurd H (by simp)

set_option maxHeartbeats 8000000 in
set_option maxRecDepth 100000 in
theorem slices_Clone_Attr.calls (A0 : Option Addr) (c0 : Nat) (l0 : List (S71)) (r : List (S71)) (w : World) (hr0 : Kd.C k71 w A0 l0.length l0) (hc0 : l0.length ≤ c0) (h : slices_Clone_Attr.f l0 = some r) :
  Calls Tryz.prog 95 #[.slice A0 l0.length c0] w fun e w' => ∃ v0_ : Value, e = .returned (v0_) ∧ Kd.R k71 71 w' w.heap.size (fun _ => True) v0_ r ∧ Below w.heap.size w w' := by
 rcases A0 with _ | a0_
 ·have hl_ : l0 = [] := by
   rcases Nat.eq_zero_or_pos l0.length with hz_ | hz_
   ·exact List.eq_nil_of_length_eq_zero hz_
   ·obtain ⟨ad_, he_, _⟩ := hr0.2.2 hz_
    cases he_
  subst hl_
  obtain rfl : r = [] := by
   simp [slices_Clone_Attr.f] at h
   exact h
  have hq_ := Lib.run_eql_slice_nil (P := Tryz.prog) w 49 71 none 0 c0 0 0 (by kernel_rfl)
  go_enter Tryz.func95, Tryz.ntmps95
  go_wp2
  go_ret
  exact ⟨_, rfl, Kd.R_nil _ _ _ _ _, Below.refl _ _⟩
 ·exact slices_Clone_Attr.calls_some a0_ c0 l0 r w hr0 hc0 h

/-! ### laws_at: function 20 -/
def laws_at.f (l0 : List Int) (a1 : Int) : Option (Int) := if a1 < (l0.length : Int) then (if 0 ≤ a1 then (some (wrap64 (rd l0 a1))) else (none)) else (some (Int.tmod (wrap64 ((wrap64 (a1 * 31)) + (wrap64 ((l0.length : Int) * 7)))) 256))
set_option maxHeartbeats 8000000 in
set_option maxRecDepth 100000 in
theorem laws_at.calls (A0 : Option Addr) (c0 : Nat) (l0 : List Int) (a1 : Int) (r : Int) (w : World) (hr0 : Kd.C (Kd.int .u8) w A0 l0.length l0) (hc0 : l0.length ≤ c0) (h : laws_at.f l0 a1 = some r) :
  Calls Tryz.prog 20 #[.slice A0 l0.length c0, .int .i64 a1] w fun e w' => e = .returned (.int .i64 r) ∧ Drawn0 w w' := by
 have HR0 := Aside0.mk hr0
 have HC0 := Aside0.mk hc0
 clear hr0 hc0
 unfold laws_at.f at h
 have H := h
 clear h
 replace H := itD H
 rcases H with ⟨c3b0, H⟩ | ⟨c3b0, H⟩
 ·replace H := itD H
  rcases H with ⟨c4b0, H⟩ | ⟨c4b0, H⟩
  ·obtain rfl := Option.some.inj H
   have p402 : (0 ≤ (a1 : Int)) = True := oT
   have q402 : (a1 < (l0.length : Int)) = True := oT
   obtain ⟨ad402, e402, hx402_0⟩ := Kd.at_int HR0.out a1 oa oa
   cases e402
   go_enter Tryz.func20, Tryz.ntmps20
   go_wp2
   go_ret
   exact ⟨oS, oD⟩
  ·cases H
 ·obtain rfl := Option.some.inj H
  go_enter Tryz.func20, Tryz.ntmps20
  go_wp2
  go_ret
  exact ⟨oS, oD⟩

/-! ### slices_Contains_int_int: function 67 -/
theorem rSpotC {α : Type} {d : Kd α} {e base n c : Nat} {ok : Nat → Prop} {w : World} {A : Option Addr} {xs : List α} (h : d.R e w base ok (.slice A n c) xs) : ∀ ad, A = some ad → 0 < xs.length → ad.spot = none := by
 intro ad hA _
 subst hA
 obtain ⟨g, rfl⟩ := Kd.R_head h
 rfl
def slices_Contains_int_int.f (l : List Int) (x : Int) : Option Bool := if l.length ≤ 9223372036854775807 then some (l.contains x) else none
theorem slices_Contains_int_int.calls (A0 : Option Addr) (c0 : Nat) (l0 : List Int) (a1 : Int) (r : Bool) (w : World) (hr0 : Kd.C (Kd.int .i64) w A0 l0.length l0) (hc0 : l0.length ≤ c0) (h : slices_Contains_int_int.f l0 a1 = some r) (hA : ∀ ad, A0 = some ad → 0 < l0.length → ad.spot = none := by first | exact rSpotC (by first | (with_reducible assumption) | exact Aside0.out (by with_reducible assumption))) :
  Calls Tryz.prog 67 #[.slice A0 l0.length c0, .int .i64 a1] w fun e w' => e = .returned (.bool r) ∧ Below w.heap.size w w' := by
 unfold slices_Contains_int_int.f at h
 split at h
 case isFalse => cases h
 case isTrue hl =>
 obtain rfl := Option.some.inj h
 by_cases h0 : l0.length = 0
 ·obtain rfl := List.eq_nil_of_length_eq_zero h0
  exact (Any.slices_Contains_int_empty Tryz.lays107 A0 c0 a1 w).mono fun e w' ⟨he, hw⟩ => ⟨he, hw ▸ Below.refl _ _⟩
 ·obtain ⟨ad, e0, _⟩ := Kd.at_int hr0 0 (by omega) (by omega)
  subst e0
  have hsp := hA ad rfl (by omega)
  obtain ⟨bk, o, sp⟩ := ad
  have hsp : sp = none := hsp
  subst hsp
  refine (Any.slices_Contains_int Tryz.lays107 bk o l0.length c0 l0 a1 w (Nat.le_refl _) hl (fun j hj => ?_)).mono fun e w' ⟨he, hw⟩ => ⟨by rw [he, List.take_length], hw ▸ Below.refl _ _⟩
  obtain ⟨ad', e', hx⟩ := Kd.at_int hr0 (j : Int) (by omega) (by omega)
  injection e' with e'
  subst e'
  rw [Int.toNat_natCast, Addr.add_lit] at hx
  rw [hx]
  simp [rd]
/-! ### impl_from: function 47 -/
def impl_from.f (a0 : Int) (a1 : Int) (a2 : Int) : Option (Bool) := if a0 ≥ a1 then (some (decide (a0 ≤ a2))) else (some false)
set_option maxHeartbeats 8000000 in
set_option maxRecDepth 100000 in
theorem impl_from.calls (a0 : Int) (a1 : Int) (a2 : Int) (r : Bool) (w : World) (h : impl_from.f a0 a1 a2 = some r) :
  Calls Tryz.prog 47 #[.int .i64 a0, .int .i64 a1, .int .i64 a2] w fun e w' => e = .returned (.bool r) ∧ Drawn0 w w' := by
 unfold impl_from.f at h
 have H := h
 clear h
 replace H := itH H
 rcases H with ⟨c4b0, H⟩ | ⟨c4b0, H⟩
 ·obtain rfl := Option.some.inj H
  go_enter Tryz.func47, Tryz.ntmps47
  go_wp2
  go_ret
  exact ⟨oS, oD⟩
 ·obtain rfl := Option.some.inj H
  go_enter Tryz.func47, Tryz.ntmps47
  go_wp2
  go_ret
  exact ⟨oS, oD⟩

/-! ### slices_Sort_int_int: function 68 -/
def sortI (l : List Int) : List Int := l.mergeSort fun x y => decide (x ≤ y)
theorem sortI_length (l : List Int) : (sortI l).length = l.length := List.length_mergeSort ..
/-- slices.Sort of a row of the call's own: it is in order behind it. -/
theorem sortOwn.calls (A : Option Addr) (c b0 : Nat) (ok : Nat → Prop) (l : List Int) (w : World) (ho : Kd.R (Kd.int .i64) 3 w b0 ok (.slice A l.length c) l) (hl : l.length < 4611686018427387904) :
  Calls Tryz.prog 68 #[.slice A l.length c] w fun e w' => e = .returned (.tuple #[]) ∧ Kd.R (Kd.int .i64) 3 w' b0 ok (.slice A l.length c) (sortI l) ∧ w.grownBy w' (Value.slice A l.length c).ownBlock := by
 have ho' := ho
 obtain ⟨hok, inner, ⟨hil, hown⟩, hrep⟩ := ho
 rcases hown with ⟨he, h0⟩ | ⟨g, cap, cur, he, hbg, hh, hnc, hcm, hcs, hin⟩
 ·obtain rfl := List.eq_nil_of_length_eq_zero h0
  refine (Any.slices_Sort_int_none Tryz.lays189 A c w).mono fun e w' ⟨he, hw⟩ => ⟨he, ?_, ?_⟩
  ·subst hw; rw [show sortI [] = [] from List.eq_nil_of_length_eq_zero (by rw [sortI_length]; rfl)]; exact ho'
  ·subst hw; exact ⟨rfl, rfl, rfl, Nat.le_refl _, fun _ _ _ => rfl⟩
 ·injection he with ha _ hc
  subst ha; subst hc
  rw [show (Kd.int .i64).sz = 1 from rfl] at hil hcs hin hrep
  have hen := Kd.reps_encs (enc := Value.int .i64) hrep
  rw [hen, Nat.mul_one] at hin
  have hgw : g < w.heap.size := blk_lt hh
  refine (Any.slices_Sort_int Tryz.lays189 g 0 c l w (holds_of_blockI hh hin) hgw hl).mono fun e w' ⟨he, n, os, hw⟩ => ?_
  subst hw
  refine ⟨he, ⟨fun k hk => hok k hk, (sortI l).map (Value.int .i64), ?_, ?_⟩, grownBy_sortedI _⟩
  ·rw [sortI_length]
   exact ownsRow_sortedI (ss := l) (sortI_length l) hbg hh hnc hcm hcs
  ·exact Kd.reps_scalar (enc := Value.int .i64) (sortI l)
/-! ### strings_Split: function 36 -/
def GOk (w : World) : Prop := ∃ m, w.cell? ⟨Tryz.laysM146_ren.g 1, 0, none⟩ = some (.int .i64 m)
theorem gk_ {w W : World} (h : Below w.heap.size w W) (hg : Aside0 (GOk w)) : GOk W := by
 obtain ⟨m, hm⟩ := hg.out
 exact ⟨m, pw_cell_below h hm⟩
def strings_Split.f (a0 a1 : ByteArray) : Option (List ByteArray) := if a0.size < 4294967281 ∧ 1 ≤ a1.size then some (Lib.splitB a1 0 (Lib.countB a0 a1) a0) else none
theorem strings_Split.calls (a0 a1 : ByteArray) (r : List ByteArray) (w : World) (h : strings_Split.f a0 a1 = some r) (hG : GOk w := by exact gk_ oB (by first | (with_reducible assumption) | assumption)) :
  Calls Tryz.prog 36 #[.string a0, .string a1] w fun e w' => ∃ v0_ : Value, e = .returned (v0_) ∧ Kd.R Kd.string 9 w' w.heap.size (fun _ => True) v0_ r ∧ Below w.heap.size w w' := by
 unfold strings_Split.f at h
 split at h
 case isFalse => cases h
 case isTrue hc =>
 obtain rfl := Option.some.inj h
 obtain ⟨m, hm⟩ := hG
 have hl := Lib.splitB_all a1 hc.2 0 _ a0 rfl
 have hle := Lib.countB_le a1 hc.2 a0.size a0 (Nat.le_refl _)
 refine (Any.strings_Split { Tryz.laysM146 with } (by kernel_rfl) a0 a1 m w hc.1 hm hc.2).mono fun e w' ⟨he, hw⟩ => ?_
 subst hw
 refine ⟨_, he, ?_, (Below.refl _ _).alloc (Nat.le_refl _) _⟩
 refine Kd.R_of_own (enc := Value.string) (h1 := fun _ => rfl) ?_ (fun _ _ => trivial)
 have ho := World.ownsRow_lit (base := w.heap.size) (e := 9) (size := 1) w ((Lib.splitB a1 0 (Lib.countB a0 a1) a0).map Value.string).toArray (Lib.countB a0 a1 + 1) (Nat.le_refl _) (by simp only [maxLen]; omega) (by simp [hl])
 rw [← hl] at ho
 rw [show (Tryz.laysM146_ren.t 9) = 9 from rfl, ← hl]
 simpa [encs] using ho
/-! ### impl_TabNew: function 12 -/
def impl_TabNew.f  : Option ((List (S51)) × Int) := some ((([(⟨1, 2, 0, ([] : List Int), ([] : List (S65)), ([] : List (S71))⟩ : S51)] : List (S51))), 2)
set_option maxHeartbeats 8000000 in
set_option maxRecDepth 100000 in
theorem impl_TabNew.calls  (r1 : List (S51)) (r2 : Int) (w : World) (h : impl_TabNew.f  = some (r1, r2)) :
  Calls Tryz.prog 12 #[] w fun e w' => ∃ v0_ : Value, e = .returned (.agg #[v0_, .int .i64 r2]) ∧ Kd.S k51 51 w' w.heap.size (fun _ => True) v0_ r1 ∧ Below w.heap.size w w' := by
 have hu26 := Tryz.underlying26
 have hu51 := Tryz.underlying51
 have HB := Aside0.mk (Below.refl w.heap.size w)
 unfold impl_TabNew.f at h
 have H := h
 clear h
 obtain ⟨y102, hy102⟩ : ∃ y_ : List (S51), y_ = (([(⟨1, 2, 0, ([] : List Int), ([] : List (S65)), ([] : List (S71))⟩ : S51)] : List (S51))) := ⟨_, rfl⟩
 replace H : (some (y102, 2)) = some (r1, r2) := by first | (rw [hy102]; with_reducible exact H) | (have H2_ := (Option.bind_some _ _).symm.trans H; rw [hy102]; with_reducible exact H2_) | (have H2_ := (Option.bind_some _ _).symm.trans H; with_reducible exact H2_) | with_reducible exact H | (rw [hy102]; exact H) | exact H
 have Ny102 := Aside0.mk hy102
 clear hy102
 simp only [Option.some.injEq, Prod.mk.injEq] at H
 obtain ⟨rfl, rfl⟩ := H
 go_enter Tryz.func12, Tryz.ntmps12
 go_wp2_with (first | ((with_reducible refine gate_dst (N := 0) rfl ?_); refine bx_ 0 #[.slice none 0 0, .int .i64 0] 26 ?_; intro gb101 hg w1 hbox hb; have BK101 := Aside0.mk (hbox); have GW101 := gs_ hg; replace HB := Aside0.mk (below_step oB hb); clear hb hbox hg) | ((with_reducible refine gate_dst (N := 2) rfl ?_); refine Kd.S_lit k51 _ 51 ?hg (N := 2) ?hd (xs := ([(⟨1, 2, 0, ([] : List Int), ([] : List (S65)), ([] : List (S71))⟩ : S51)] : List (S51))) (inner := [.int .i64 1, .int .i64 2, .int .i64 0, .slice none 0 0, .slice none 0 0, .slice none 0 0]) (ok := fun _ => True) (okp := fun _ => True) ?hr ?hp (fun _ hk => hk) trivial (Below.refl _ _) (Nat.le_refl _) (by simp) ?_; (case hd => rfl); (case hg => rfl); (case hr => first | (go_simp; done) | (go_simp; rfl)); (case hp => exact (Reps.c6 (show Kd.M k51 _ _ _ (⟨1, 2, 0, ([] : List Int), ([] : List (S65)), ([] : List (S71))⟩ : S51) [.int .i64 1, .int .i64 2, .int .i64 0, .slice none 0 0, .slice none 0 0, .slice none 0 0] from (k51_mkM _ _ _ (⟨1, 2, 0, ([] : List Int), ([] : List (S65)), ([] : List (S71))⟩ : S51) (Kd.R_nil _ _ _ _ _) (Kd.R_nil _ _ _ _ _) (Kd.R_nil _ _ _ _ _))) (Reps.none _ _))); intro v103 w2 ho3 hb hg_ hnew_; clear hg_ hnew_; (first | rw [← Ny102.out] at ho3 | (simp only [Int.reduceToNat] at ho3; rw [← Ny102.out] at ho3)); have HO104 := Aside0.mk (Kd.S_lower ho3 (below_size oB)); replace BK101 := kb_ BK101 hb; replace HB := Aside0.mk (below_step oB hb); clear hb ho3; obtain ⟨Ao4, co4, eo4⟩ := Kd.S_slice HO104.out; subst eo4; obtain ⟨⟨_, _⟩, _, _⟩ := z2 BK101))
 refine bodyPost_ret (results_cell_row rfl _ _ gb101 26 #[.slice Ao4 y102.length co4, .int .i64 2] (0, 0) _ rfl (oP BK101) Tryz.underlying26 rfl (by kernel_rfl)) rfl ?_
 exact ⟨_, oE, by (with_reducible repeat (first | apply Kd.S_alloc | apply Kd.S_drewN | apply Kd.S_drew)); exact Kd.S_mono (Kd.S_far (p := ⟨gb101, 1, none⟩) (Kd.S_far (p := ⟨gb101, 0, none⟩) (Kd.S_types HO104.out BK101.out (by decide)) (fun _ hk => hk.2) (.slice Ao4 y102.length co4)) (fun _ hk => hk.2) (.int .i64 2)) (fun _ hk => trivial), oB⟩

/-! ### laws_big: function 11 -/
def laws_big.f (l0 : List Int) : Option (Bool) := some (decide ((l0.length : Int) > 1048576))
set_option maxHeartbeats 8000000 in
set_option maxRecDepth 100000 in
theorem laws_big.calls (A0 : Option Addr) (c0 : Nat) (l0 : List Int) (r : Bool) (w : World) (hr0 : Kd.C (Kd.int .u8) w A0 l0.length l0) (hc0 : l0.length ≤ c0) (h : laws_big.f l0 = some r) :
  Calls Tryz.prog 11 #[.slice A0 l0.length c0] w fun e w' => e = .returned (.bool r) ∧ Drawn0 w w' := by
 have HR0 := Aside0.mk hr0
 have HC0 := Aside0.mk hc0
 clear hr0 hc0
 unfold laws_big.f at h
 have H := h
 clear h
 obtain rfl := Option.some.inj H
 go_enter Tryz.func11, Tryz.ntmps11
 go_wp2
 go_ret
 exact ⟨oS, oD⟩

-- NOT PRINTED: function 91 (slices_IndexFunc_string_string)

-- NOT PRINTED: function 64 (slices_ContainsFunc_string_string)

-- NOT PRINTED: function 69 (slices_IndexFunc_Inode)

-- NOT PRINTED: function 107 (impl_Inode_107)

-- NOT PRINTED: function 146 (slices_Reverse_Inode)

-- NOT PRINTED: function 132 (impl_Inode_132)

-- NOT PRINTED: function 108 (impl_Inode_108)

-- NOT PRINTED: function 134 (strings_Join)

-- NOT PRINTED: function 79 (slices_IndexFunc_Ent)

-- NOT PRINTED: function 111 (impl_Ent_111)

-- NOT PRINTED: function 150 (slices_Reverse_Ent)

-- NOT PRINTED: function 135 (impl_Ent_135)

-- NOT PRINTED: function 112 (impl_Ent_112)

-- NOT PRINTED: function 83 (slices_DeleteFunc_Ent)

-- NOT PRINTED: function 85 (slices_DeleteFunc_Inode)

end Go.Proofs.YtkcfmbggdkkfeaaGreatDoor.P
