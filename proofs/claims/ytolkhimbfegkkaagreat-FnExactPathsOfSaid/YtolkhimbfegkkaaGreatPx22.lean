-- By this session's own program (wip/myprint.py) out of the translation; Lean checks it.
import Derived.Test.YtolkhimbfegkkaaGreatPx0
import Derived.Test.YtolkhimbfegkkaaGreatPx2
import Derived.Test.YtolkhimbfegkkaaGreatPx3
import Derived.Test.YtolkhimbfegkkaaGreatPx6
import Derived.Test.YtolkhimbfegkkaaGreatPx8
import Derived.Test.YtolkhimbfegkkaaGreatPx11
import Derived.Test.YtolkhimbfegkkaaGreatPx12
import Derived.Test.YtolkhimbfegkkaaGreatPx16
import Derived.Test.YtolkhimbfegkkaaGreatPx17
import Derived.Test.YtolkhimbfegkkaaGreatPx19
import Derived.Test.YtolkhimbfegkkaaGreatPx20
import Derived.Test.YtolkhimbfegkkaaGreatPx21
namespace Go.Proofs.YtolkhimbfegkkaaGreat.P
open Go.RowKit Go.Proofs.YtolkhimbfegkkaaGreatW.PrintWords Go.Proofs.YtolkhimbfegkkaaGreatW.PrintLast Go.Proofs.YtolkhimbfegkkaaGreatW.PrintMore
attribute [local go_sem] max2_int min2_int max_two min_two max_three min_three max_four min_four   -- for this text's walks alone
set_option linter.unusedVariables false
set_option linter.unusedSimpArgs false

/-! ### impl_PathsOf: function 7 -/
def impl_PathsOf.f (k : Nat) (l0_0 : List (S47)) (a0_1 : Int) : Option (List ByteArray) := (impl_TreeOk.f k l0_0 a0_1).bind fun t485 => (if t485 = true then ((impl_InodeAt.f k l0_0 a0_1 1).bind fun bt486 => ((impl_pathsBelow.f k l0_0 a0_1 bt486.1 bt486.2.1 bt486.2.2.1 bt486.2.2.2.1 bt486.2.2.2.2.1 bt486.2.2.2.2.2.1 (⟨#[]⟩ : ByteArray)).bind fun t500 => (if t500.length < 4611686018427387904 then some (sortS t500) else none))) else (some ([] : List ByteArray)))
set_option maxHeartbeats 8000000 in
set_option maxRecDepth 100000 in
theorem impl_PathsOf.calls (k : Nat) (A0_0 : Option Addr) (c0_0 : Nat) (l0_0 : List (S47)) (a0_1 : Int) (r : List ByteArray) (w : World) (hr0_0 : Kd.C k47 w A0_0 l0_0.length l0_0) (hc0_0 : l0_0.length ≤ c0_0) (h : impl_PathsOf.f k l0_0 a0_1 = some r) :
  Calls Tryz.prog 7 #[.agg #[.slice A0_0 l0_0.length c0_0, .int .i64 a0_1]] w fun e w' => ∃ v0_ : Value, e = .returned (v0_) ∧ Kd.R Kd.string 9 w' w.heap.size (fun _ => True) v0_ r ∧ Below w.heap.size w w' := by
 have hu30 := Tryz.underlying30
 have hu47 := Tryz.underlying47
 have HR0_0 := Aside0.mk hr0_0
 have HC0_0 := Aside0.mk hc0_0
 clear hr0_0 hc0_0
 have HB := Aside0.mk (Below.refl w.heap.size w)
 unfold impl_PathsOf.f at h
 have H := h
 clear h
 replace H := bA H
 obtain ⟨t485, A2, H⟩ := H
 try dsimp only at H
 replace H := itB H
 rcases H with ⟨rfl, H⟩ | ⟨rfl, H⟩
 ·replace H := bA H
  obtain ⟨⟨t486, t487, t488, t489, t492, t495, t498⟩, A4, H⟩ := H
  try dsimp only at H
  replace H := bA H
  obtain ⟨t500, A5, H⟩ := H
  try dsimp only at H
  split at H
  case isFalse => cases H
  case isTrue hsl_ =>
  obtain rfl := Option.some.inj H
  go_enter Tryz.func7, Tryz.ntmps7
  go_wp2_with (first | ((with_reducible refine gate_dst (N := 1) rfl ?_); refine bx_ 1 #[.slice A0_0 l0_0.length c0_0, .int .i64 a0_1] 30 ?_; intro gb484 hg w6 hbox hb; have BK484 := Aside0.mk (hbox); have GW484 := gs_ hg; replace HB := Aside0.mk (below_step oB hb); clear hb hbox hg; obtain ⟨⟨_, _⟩, _, _⟩ := z2 BK484) | ((with_reducible refine gate_callee (f := 18) rfl ?_); refine gl_ 7 Tryz.func18 (impl_TreeOk.calls k _ _ l0_0 a0_1 true _ (kC HR0_0) HC0_0.out A2.out) ?_; rintro e w8 ⟨rfl, hb⟩; refine ⟨_, rfl, ?_⟩; replace BK484 := kb_ BK484 hb; replace HB := Aside0.mk (below_step oB hb); obtain ⟨⟨_, _⟩, _, _⟩ := z2 BK484) | ((with_reducible refine gate_callee (f := 19) rfl ?_); refine gl_ 11 Tryz.func19 (impl_InodeAt.calls k _ _ l0_0 a0_1 1 t486 t487 t488 t489 t492 t495 t498 _ (kC HR0_0) HC0_0.out A4.out) ?_; rintro e w10 ⟨v490, v493, v496, rfl, ho0, ho1, ho2, hb⟩; refine ⟨_, rfl, ?_⟩; have HO491 := Aside0.mk (Kd.R_lower ho0 (below_size oB)); have HO494 := Aside0.mk (Kd.R_lower ho1 (below_size oB)); have HO497 := Aside0.mk (Kd.R_lower ho2 (below_size oB)); replace BK484 := kb_ BK484 hb; replace HB := Aside0.mk (below_step oB hb); (try clear ho1); (try clear ho2)) | ((with_reducible refine gate_dst (N := 3) rfl ?_); refine bx_ 3 #[.int .i64 0, .int .i64 0, .int .i64 0, .slice none 0 0, .slice none 0 0, .slice none 0 0] 47 ?_; intro gb499 hg w11 hbox hb; have BK499 := Aside0.mk (hbox); have GW499 := gs_ hg; have NB484_499 := nl_ hg BK484; have NB499_484 := nr_ hg BK484; replace HO491 := kr_ HO491 hb; replace HO494 := kr_ HO494 hb; replace HO497 := kr_ HO497 hb; replace BK484 := kb_ BK484 hb; replace HB := Aside0.mk (below_step oB hb); clear hb hbox hg; have hnb12 := NB499_484.out; have hnc12 := NB484_499.out; obtain ⟨⟨_, _, _, _, _, _⟩, _, _, _, _, _, _⟩ := z6 BK499; obtain ⟨Ao14, co14, eo14⟩ := Kd.R_slice HO491.out; subst eo14; obtain ⟨Ao15, co15, eo15⟩ := Kd.R_slice HO494.out; subst eo15; obtain ⟨Ao16, co16, eo16⟩ := Kd.R_slice HO497.out; subst eo16; obtain ⟨⟨_, _⟩, _, _⟩ := z2 BK484) | ((with_reducible refine gate_callee (f := 20) rfl ?_); refine gl_ 16 Tryz.func20 (impl_pathsBelow.calls k _ _ l0_0 a0_1 t486 t487 t488 _ _ t489 _ _ t492 _ _ t495 (⟨#[]⟩ : ByteArray) t500 _ ?side1 HC0_0.out (rcR1 HO491 BK499) (ko HO491) (rcR1 HO494 BK499) (ko HO494) (rcR1 HO497 BK499) (ko HO497) A5.out) ?_; (case side1 => exact Kd.C_below HR0_0.out oB); rintro e w18 ⟨v501, rfl, ho0, hb⟩; refine ⟨_, rfl, ?_⟩; have HO502 := Aside0.mk (Kd.R_lower ho0 (below_size oB)); replace HO491 := beR1 HO491 BK499 hb; replace HO494 := beR1 HO494 BK499 hb; replace HO497 := beR1 HO497 BK499 hb; replace BK484 := kb_ BK484 hb; replace BK499 := kp_ #[.int .i64 t486, .int .i64 t487, .int .i64 t488, .slice Ao14 t489.length co14, .slice Ao15 t492.length co15, .slice Ao16 t495.length co16] BK499 hb; replace HB := Aside0.mk (below_step oB hb); (try clear hk); obtain ⟨Aq_, cq_, eq_⟩ := Kd.R_slice HO502.out; subst eq_) | (go_at_call 21; refine (sortOwnS.calls Aq_ cq_ w.heap.size (fun _ => True) t500 _ (oR HO502) hsl_).mono ?_; rintro e w9_ ⟨rfl, hs_, hg_⟩))
  go_ret
  exact ⟨_, oE, hs_, (oB : Below w.heap.size w _).grown hg_ (below_size oB) (fun k_ hk_ => Kd.R_base hs_ k_ hk_)⟩
 ·obtain rfl := Option.some.inj H
  go_enter Tryz.func7, Tryz.ntmps7
  go_wp2_with (first | ((with_reducible refine gate_dst (N := 1) rfl ?_); refine bx_ 1 #[.slice A0_0 l0_0.length c0_0, .int .i64 a0_1] 30 ?_; intro gb484 hg w19 hbox hb; have BK484 := Aside0.mk (hbox); have GW484 := gs_ hg; replace HB := Aside0.mk (below_step oB hb); clear hb hbox hg; obtain ⟨⟨_, _⟩, _, _⟩ := z2 BK484) | ((with_reducible refine gate_callee (f := 18) rfl ?_); refine gl_ 7 Tryz.func18 (impl_TreeOk.calls k _ _ l0_0 a0_1 false _ (kC HR0_0) HC0_0.out A2.out) ?_; rintro e w21 ⟨rfl, hb⟩; refine ⟨_, rfl, ?_⟩; replace BK484 := kb_ BK484 hb; replace HB := Aside0.mk (below_step oB hb)))
  go_ret
  exact ⟨_, oE, by first | exact Kd.R_nil _ _ _ _ _ | exact Kd.N_nil _ _ _ _ _ | exact Kd.V_nil _ _ _ _ _ | exact Kd.Q_nil _ _ _ _ _ | exact Kd.S_nil _ _ _ _ _, oB⟩

/-! ### spec_PathsOf: function 5 -/
def spec_PathsOf.f (k : Nat) (l0_0 : List (S47)) (a0_1 : Int) : Option (List ByteArray) := (spec_TreeOk.f k l0_0 a0_1).bind fun t1 => (if t1 = true then ((spec_l7Paths.f k l0_0 a0_1 1 (⟨#[]⟩ : ByteArray) ([] : List ByteArray)).bind fun t2 => spec_l7Sort.f k t2) else (spec_l7Sort.f k ([] : List ByteArray)))
set_option maxHeartbeats 8000000 in
set_option maxRecDepth 100000 in
theorem spec_PathsOf.calls (k : Nat) (A0_0 : Option Addr) (c0_0 : Nat) (l0_0 : List (S47)) (a0_1 : Int) (r : List ByteArray) (w : World) (hr0_0 : Kd.C k47 w A0_0 l0_0.length l0_0) (hc0_0 : l0_0.length ≤ c0_0) (h : spec_PathsOf.f k l0_0 a0_1 = some r) :
  Calls Tryz.prog 5 #[.agg #[.slice A0_0 l0_0.length c0_0, .int .i64 a0_1]] w fun e w' => ∃ v0_ : Value, e = .returned (v0_) ∧ Kd.R Kd.string 9 w' w.heap.size (fun _ => True) v0_ r ∧ Below w.heap.size w w' := by
 have hu30 := Tryz.underlying30
 have hu26 := Tryz.underlying26
 have HR0_0 := Aside0.mk hr0_0
 have HC0_0 := Aside0.mk hc0_0
 clear hr0_0 hc0_0
 have HB := Aside0.mk (Below.refl w.heap.size w)
 unfold spec_PathsOf.f at h
 have H := h
 clear h
 replace H := bA H
 obtain ⟨t1, A2, H⟩ := H
 try dsimp only at H
 replace H := itB H
 rcases H with ⟨rfl, H⟩ | ⟨rfl, H⟩
 ·replace H := bA H
  obtain ⟨t2, A3, H⟩ := H
  try dsimp only at H
  have A4 := Aside0.mk H
  clear H
  go_enter Tryz.func5, Tryz.ntmps5
  go_wp2_with (first | ((with_reducible refine gate_dst (N := 1) rfl ?_); refine bx_ 1 #[.slice A0_0 l0_0.length c0_0, .int .i64 a0_1] 30 ?_; intro gb1 hg w6 hbox hb; have BK1 := Aside0.mk (hbox); have GW1 := gs_ hg; replace HB := Aside0.mk (below_step oB hb); clear hb hbox hg; obtain ⟨⟨_, _⟩, _, _⟩ := z2 BK1) | ((with_reducible refine gate_dst (N := 4) rfl ?_); refine Kd.R_lit Kd.string _ 9 ?hg (N := 4) ?hd (xs := ([] : List ByteArray)) (inner := []) (ok := fun _ => True) (okp := fun _ => True) ?hr ?hp (fun _ hk => hk) trivial (Below.refl _ _) (Nat.le_refl _) (by simp) ?_; (case hd => rfl); (case hg => rfl); (case hr => first | (go_simp; done) | (go_simp; rfl)); (case hp => exact (Reps.none _ _)); intro v4 w7 ho7 hb hg_ hnew_; clear hg_ hnew_; have HV := Aside0.mk (Kd.R_lower ho7 (below_size oB)); replace BK1 := kb_ BK1 hb; replace HB := Aside0.mk (below_step oB hb); clear hb ho7; obtain ⟨A4_, c4_, e4_⟩ := Kd.R_slice HV.out; subst e4_; obtain ⟨⟨_, _⟩, _, _⟩ := z2 BK1) | ((with_reducible refine gate_dst (N := 3) rfl ?_); refine bx_ 3 #[.slice none 0 0] 26 ?_; intro gb3 hg w8 hbox hb; have BG := Aside0.mk (hbox); have GW3 := gs_ hg; have NB1_3 := nl_ hg BK1; have NB3_1 := nr_ hg BK1; replace HV := kr_ HV hb; replace BK1 := kb_ BK1 hb; replace HB := Aside0.mk (below_step oB hb); clear hb hbox hg; have hnb := NB1_3.out; have hnc := NB3_1.out; obtain ⟨_, _⟩ := z1 BG; obtain ⟨⟨_, _⟩, _, _⟩ := z2 BK1) | ((with_reducible refine gate_callee (f := 14) rfl ?_); refine gl_ 6 Tryz.func14 (spec_TreeOk.calls k _ _ l0_0 a0_1 true _ (kC HR0_0) HC0_0.out A2.out) ?_; rintro e w9 ⟨rfl, hb⟩; refine ⟨_, rfl, ?_⟩; replace HV := Aside0.mk (Kd.R_below (nR1 HV BG) hb); replace BK1 := kb_ BK1 hb; replace BG := kp_ #[.slice A4_ ([] : List ByteArray).length c4_] BG hb; replace HB := Aside0.mk (below_step oB hb); obtain ⟨⟨_, _⟩, _, _⟩ := z2 BK1) | ((with_reducible refine gate_callee (f := 15) rfl ?_); refine gl_ 8 Tryz.func15 (spec_l7Paths.calls k _ _ l0_0 a0_1 1 (⟨#[]⟩ : ByteArray) gb3 _ _ t2 w _ HR0_0.out HC0_0.out HB.out GW3.out BG.out HV.out A3.out) ?_; rintro e w10 ⟨rfl, u2, hG2, hV2, hK2, hB2⟩; refine ⟨_, rfl, ?_⟩; replace BG := Aside0.mk hG2; replace HV := Aside0.mk hV2; replace HB := Aside0.mk hB2; clear hG2 hV2 hK2 hB2; obtain ⟨A5_, c5_, e5_⟩ := Kd.R_slice HV.out; subst e5_; obtain ⟨_, _⟩ := z1 BG) | ((with_reducible refine gate_callee (f := 16) rfl ?_); refine gl_ 10 Tryz.func16 (spec_l7Sort.calls k _ _ t2 r _ (Kd.R_reads' HV.out).2.2 (Kd.R_reads' HV.out).2.1 A4.out) ?_; rintro e w11 ⟨v11, rfl, ho0, hb⟩; refine ⟨_, rfl, ?_⟩; have HO := Aside0.mk (Kd.R_lower ho0 (below_size oB)); replace HB := Aside0.mk (below_step oB hb)))
  go_ret
  exact ⟨_, oE, oR HO, oB⟩
 ·have A4 := Aside0.mk H
  clear H
  go_enter Tryz.func5, Tryz.ntmps5
  go_wp2_with (first | ((with_reducible refine gate_dst (N := 1) rfl ?_); refine bx_ 1 #[.slice A0_0 l0_0.length c0_0, .int .i64 a0_1] 30 ?_; intro gb1 hg w6 hbox hb; have BK1 := Aside0.mk (hbox); have GW1 := gs_ hg; replace HB := Aside0.mk (below_step oB hb); clear hb hbox hg; obtain ⟨⟨_, _⟩, _, _⟩ := z2 BK1) | ((with_reducible refine gate_dst (N := 4) rfl ?_); refine Kd.R_lit Kd.string _ 9 ?hg (N := 4) ?hd (xs := ([] : List ByteArray)) (inner := []) (ok := fun _ => True) (okp := fun _ => True) ?hr ?hp (fun _ hk => hk) trivial (Below.refl _ _) (Nat.le_refl _) (by simp) ?_; (case hd => rfl); (case hg => rfl); (case hr => first | (go_simp; done) | (go_simp; rfl)); (case hp => exact (Reps.none _ _)); intro v4 w7 ho7 hb hg_ hnew_; clear hg_ hnew_; have HV := Aside0.mk (Kd.R_lower ho7 (below_size oB)); replace BK1 := kb_ BK1 hb; replace HB := Aside0.mk (below_step oB hb); clear hb ho7; obtain ⟨A4_, c4_, e4_⟩ := Kd.R_slice HV.out; subst e4_; obtain ⟨⟨_, _⟩, _, _⟩ := z2 BK1) | ((with_reducible refine gate_dst (N := 3) rfl ?_); refine bx_ 3 #[.slice none 0 0] 26 ?_; intro gb3 hg w8 hbox hb; have BG := Aside0.mk (hbox); have GW3 := gs_ hg; have NB1_3 := nl_ hg BK1; have NB3_1 := nr_ hg BK1; replace HV := kr_ HV hb; replace BK1 := kb_ BK1 hb; replace HB := Aside0.mk (below_step oB hb); clear hb hbox hg; have hnb := NB1_3.out; have hnc := NB3_1.out; obtain ⟨_, _⟩ := z1 BG; obtain ⟨⟨_, _⟩, _, _⟩ := z2 BK1) | ((with_reducible refine gate_callee (f := 14) rfl ?_); refine gl_ 6 Tryz.func14 (spec_TreeOk.calls k _ _ l0_0 a0_1 false _ (kC HR0_0) HC0_0.out A2.out) ?_; rintro e w9 ⟨rfl, hb⟩; refine ⟨_, rfl, ?_⟩; replace HV := Aside0.mk (Kd.R_below (nR1 HV BG) hb); replace BK1 := kb_ BK1 hb; replace BG := kp_ #[.slice A4_ ([] : List ByteArray).length c4_] BG hb; replace HB := Aside0.mk (below_step oB hb); obtain ⟨_, _⟩ := z1 BG) | ((with_reducible refine gate_callee (f := 16) rfl ?_); refine gl_ 10 Tryz.func16 (spec_l7Sort.calls k _ _ ([] : List ByteArray) r _ (Kd.R_reads' HV.out).2.2 (Kd.R_reads' HV.out).2.1 A4.out) ?_; rintro e w11 ⟨v11, rfl, ho0, hb⟩; refine ⟨_, rfl, ?_⟩; have HO := Aside0.mk (Kd.R_lower ho0 (below_size oB)); replace HB := Aside0.mk (below_step oB hb)))
  go_ret
  exact ⟨_, oE, oR HO, oB⟩
/-! ### laws_FnExactPathsOf: function 3 -/
def laws_FnExactPathsOf.T10 : Bool × List (List Nat × List Nat) := (true, [([], []), ([], []), ([1], [1]), ([0, 2, 2], [0, 2]), ([3], [3])])
def laws_FnExactPathsOf.B10 : List Nat := [0, 0, 2, 7, 15]
theorem laws_FnExactPathsOf.tab10 : rtab .any (opsOf Tryz.f3 10) = laws_FnExactPathsOf.T10 := by kernel_rfl
theorem laws_FnExactPathsOf.bits10 : waitsOk laws_FnExactPathsOf.T10.2 laws_FnExactPathsOf.B10 = true := by kernel_rfl
theorem laws_heldStringS.calls' (k : Nat) (A0 : Option Addr) (c0 n : Nat) (l0 : List ByteArray) (a1 r : Int) (w : World) (hn : l0.length = n) (hr0 : Kd.C Kd.string w A0 l0.length l0) (hc0 : l0.length ≤ c0) (h : laws_heldStringS.f k l0 a1 = some r) :
  Calls Tryz.prog 12 #[.slice A0 n c0, .int .i64 a1] w fun e w' => e = .returned (.int .i64 r) ∧ Below w.heap.size w w' := by
 subst hn
 exact laws_heldStringS.calls k A0 c0 l0 a1 r w hr0 hc0 h
def laws_FnExactPathsOf.f (k : Nat) (l0_0 : List S59) (a0_1 : Int) : Option Bool :=
 (laws_szTab.f k l0_0 a0_1 1048576).bind fun R => if R < 0 then some true else
 (laws_toTab.f k l0_0 a0_1).bind fun t => (spec_PathsOf.f k t.1 t.2).bind fun p => (impl_PathsOf.f k t.1 t.2).bind fun s =>
 (laws_eqStringS.f k s p).bind fun e1 => (laws_eqTab.f k t.1 t.2 t.1 t.2).bind fun e2 => (laws_markInodeS.f k t.1 1).bind fun mt =>
 (laws_markStringS.f k s 1).bind fun m => (laws_heldStringS.f k m.2 1).bind fun q =>
 if e1 = true ∧ e2 = true ∧ ¬ mt.1 < 0 ∧ ¬ q < 0 ∧ q = m.1 ∧ m.2.length = s.length then some true else none
set_option maxHeartbeats 8000000 in
set_option maxRecDepth 100000 in
theorem laws_FnExactPathsOf.calls (k : Nat) (A0_0 : Option Addr) (c0_0 : Nat) (l0_0 : List S59) (a0_1 : Int) (r : Bool) (w : World) (hr0_0 : Kd.C k59 w A0_0 l0_0.length l0_0) (hc0_0 : l0_0.length ≤ c0_0) (h : laws_FnExactPathsOf.f k l0_0 a0_1 = some r) :
  Calls Tryz.prog 3 #[.agg #[.slice A0_0 l0_0.length c0_0, .int .i64 a0_1]] w fun e w' => e = .returned (.bool r) ∧ Below w.heap.size w w' := by
 have HR0_0 := Aside0.mk hr0_0
 have HC0_0 := Aside0.mk hc0_0
 clear hr0_0 hc0_0
 have HB := Aside0.mk (Below.refl w.heap.size w)
 unfold laws_FnExactPathsOf.f at h
 replace h := bA h
 obtain ⟨R, H1, h⟩ := h
 split at h
 case isTrue hR =>
  have cR : decide (R < 0) = true := decide_eq_true hR
  obtain rfl := Option.some.inj h
  clear h hR
  go_enter Tryz.func3, Tryz.ntmps3
  go_wp2_with fail
  refine (laws_szTab.calls k _ _ l0_0 a0_1 1048576 R _ (kC HR0_0) HC0_0.out H1.out).mono ?_
  rintro e w1 ⟨rfl, hb⟩
  replace HB := Aside0.mk (below_step oB hb)
  go_wp2
  go_ret
  exact ⟨rfl, oB⟩
 case isFalse hR =>
 have cR : decide (R < 0) = false := decide_eq_false hR
 clear hR
 replace h := bA h
 obtain ⟨⟨tl, tn⟩, H2, h⟩ := h
 replace h := bA h
 obtain ⟨p1, H3, h⟩ := h
 replace h := bA h
 obtain ⟨s1, H4, h⟩ := h
 replace h := bA h
 obtain ⟨e1, H5, h⟩ := h
 replace h := bA h
 obtain ⟨e2, H6, h⟩ := h
 replace h := bA h
 obtain ⟨⟨mt, ml⟩, H7, h⟩ := h
 replace h := bA h
 obtain ⟨⟨mk, mg⟩, H8, h⟩ := h
 replace h := bA h
 obtain ⟨q, H9, h⟩ := h
 split at h
 case isFalse => cases h
 case isTrue hh =>
 try dsimp only at hh
 obtain ⟨rfl, rfl, hmt, hq, rfl, l4⟩ := hh
 obtain rfl := Option.some.inj h
 clear h
 have cm : decide (mt < 0) = false := decide_eq_false hmt
 have cq : decide (q < 0) = false := decide_eq_false hq
 clear hmt hq
 have L4 := Aside0.mk l4
 clear l4
 try dsimp only at H3 H4 H5 H6 H7 H8 H9 L4
 go_enter Tryz.func3, Tryz.ntmps3
 go_wp2_with fail
 refine (laws_szTab.calls k _ _ l0_0 a0_1 1048576 R _ (kC HR0_0) HC0_0.out H1.out).mono ?_
 rintro e w1 ⟨rfl, hb⟩
 have n1 : w.heap.size + 1 ≤ w1.heap.size := by have := hb.size; simpa using this
 have K_aT := bnew hb
 replace hb := bold hb
 replace HB := Aside0.mk (below_step oB hb)
 clear hb
 have Z_aT := z2 K_aT
 have Y_aT := zz2 K_aT
 go_wp2_with fail
 refine (laws_toTab.calls k _ _ l0_0 a0_1 tl tn _ (kC HR0_0) HC0_0.out H2.out).mono ?_
 rintro e w2 ⟨v_t0, rfl, h_t0, hb⟩
 obtain ⟨A_t0, c_t0, rfl⟩ := Kd.S_slice h_t0
 have S_t0 := siv' h_t0 (w1.heap.size) w.heap.size (by simp) (below_size oB)
 clear h_t0
 have n2 : w1.heap.size ≤ w2.heap.size := by have := hb.size; simpa using this
 replace K_aT := bstep K_aT hb
 replace HB := Aside0.mk (below_step oB hb)
 clear hb
 replace Z_aT := z2 K_aT
 replace Y_aT := zz2 K_aT
 go_wp2_with fail
 refine (spec_PathsOf.calls k _ _ tl tn p1 _ (rS S_t0) (rl S_t0) H3.out).mono ?_
 rintro e w3 ⟨v_w0, rfl, h_w0, hb⟩
 obtain ⟨A_w0, c_w0, rfl⟩ := Kd.R_slice h_w0
 have S_w0 := riv' h_w0 (w2.heap.size) w.heap.size (by simp) (below_size oB)
 clear h_w0
 have n3 : w2.heap.size ≤ w3.heap.size := by have := hb.size; simpa using this
 replace K_aT := bstep K_aT hb
 replace S_t0 := sb S_t0 hb
 replace HB := Aside0.mk (below_step oB hb)
 clear hb
 replace Z_aT := z2 K_aT
 replace Y_aT := zz2 K_aT
 clear S_t0
 go_wp2_with fail
 refine (laws_toTab.calls k _ _ l0_0 a0_1 tl tn _ (kC HR0_0) HC0_0.out H2.out).mono ?_
 rintro e w4 ⟨v_x0, rfl, h_x0, hb⟩
 obtain ⟨A_x0, c_x0, rfl⟩ := Kd.S_slice h_x0
 have S_x0 := siv' h_x0 (w3.heap.size) w.heap.size (by simp) (below_size oB)
 clear h_x0
 have n4 : w3.heap.size ≤ w4.heap.size := by have := hb.size; simpa using this
 replace K_aT := bstep K_aT hb
 replace S_w0 := rb S_w0 hb
 replace HB := Aside0.mk (below_step oB hb)
 clear hb
 replace Z_aT := z2 K_aT
 replace Y_aT := zz2 K_aT
 go_wp2_with fail
 refine (impl_PathsOf.calls k _ _ tl tn s1 _ (rS S_x0) (rl S_x0) H4.out).mono ?_
 rintro e w5 ⟨v_g0, rfl, h_g0, hb⟩
 obtain ⟨A_g0, c_g0, rfl⟩ := Kd.R_slice h_g0
 have S_g0 := riv' h_g0 (w4.heap.size + 1) w.heap.size (by simp) (below_size oB)
 clear h_g0
 have n5 : w4.heap.size + 1 ≤ w5.heap.size := by have := hb.size; simpa using this
 have K_x0 := bnew hb
 replace hb := bold hb
 replace K_aT := bstep K_aT hb
 replace S_w0 := rb S_w0 hb
 replace S_x0 := sb S_x0 hb
 replace HB := Aside0.mk (below_step oB hb)
 clear hb
 replace Z_aT := z2 K_aT
 replace Y_aT := zz2 K_aT
 have Z_x0 := z2 K_x0
 have Y_x0 := zz2 K_x0
 go_wp2_with fail
 refine (laws_eqStringS.calls k _ _ s1 _ _ p1 true _ (kO S_g0) (rlR S_g0) (kO S_w0) (rlR S_w0) H5.out).mono ?_
 rintro e w6 ⟨rfl, hb⟩
 replace hb := Drawn0.below hb
 have n6 : w5.heap.size ≤ w6.heap.size := by have := hb.size; simpa using this
 replace K_aT := bstep K_aT hb
 replace K_x0 := bstep K_x0 hb
 replace S_w0 := rb S_w0 hb
 replace S_x0 := sb S_x0 hb
 replace S_g0 := rb S_g0 hb
 replace HB := Aside0.mk (below_step oB hb)
 clear hb
 replace Z_aT := z2 K_aT
 replace Y_aT := zz2 K_aT
 replace Z_x0 := z2 K_x0
 replace Y_x0 := zz2 K_x0
 go_wp2_with fail
 replace K_aT := bdrew K_aT
 replace K_x0 := bdrew K_x0
 replace S_w0 := rdrew S_w0
 replace S_x0 := sdrew S_x0
 replace S_g0 := rdrew S_g0
 replace HB := Aside0.mk (below_drew1 HB.out)
 have n7 : w6.heap.size ≤ w6.drew.heap.size := Nat.le_refl _
 clear Z_aT Y_aT Z_x0 Y_x0
 refine st_ 5 (fun w' => w'.cell? ⟨w4.heap.size, 0, none⟩ = some (.slice A_x0 tl.length c_x0) ∧ w'.cell? ⟨w4.heap.size, 1, none⟩ = some (.int .i64 tn) ∧ w'.cell? ⟨w.heap.size, 0, none⟩ = some (.slice A0_0 l0_0.length c0_0) ∧ w'.cell? ⟨w.heap.size, 1, none⟩ = some (.int .i64 a0_1)) laws_FnExactPathsOf.tab10 laws_FnExactPathsOf.bits10 oH (fun hHeld HT_ HW_ => ?_)
 generalize w6.drew = w7 at HB hHeld n7 K_aT K_x0 S_w0 S_x0 S_g0 ⊢
 refine ta_ 0 27 HT_ HW_ hHeld ?_
 refine ta_ 1 28 HT_ HW_ hHeld ?_
 refine on_ 2 29 HT_ (fun K hK => ?_)
 refine gr_ 29 Tryz.func6 (laws_toTab.calls k _ _ l0_0 a0_1 tl tn _ (kC HR0_0) HC0_0.out H2.out) ?_
 rintro e w8 ⟨v_y0, rfl, h_y0, hb⟩
 obtain ⟨A_y0, c_y0, rfl⟩ := Kd.S_slice h_y0
 have S_y0 := siv' h_y0 (w7.heap.size) w.heap.size (by simp) (below_size oB)
 clear h_y0
 refine ⟨_, rfl, ?_⟩
 have n8 : w7.heap.size ≤ w8.heap.size := by have := hb.size; simpa using this
 replace K_aT := bstep K_aT hb
 replace K_x0 := bstep K_x0 hb
 replace S_w0 := rb S_w0 hb
 replace S_x0 := sb S_x0 hb
 replace S_g0 := rb S_g0 hb
 replace HB := Aside0.mk (below_step oB hb)
 clear hb hHeld
 refine hk_ hK 29 oH (fun hHeld => ?_)
 clear hK K
 refine on_ 3 30 HT_ (fun K hK => ?_)
 refine gr_ 30 Tryz.func9 (laws_eqTab.calls k _ _ tl tn _ _ tl tn true _ (rS S_x0) (rl S_x0) (rS S_y0) (rl S_y0) H6.out) ?_
 rintro e w9 ⟨rfl, hb⟩
 refine ⟨_, rfl, ?_⟩
 have n9 : w8.heap.size ≤ w9.heap.size := by have := hb.size; simpa using this
 replace K_aT := bstep K_aT hb
 replace K_x0 := bstep K_x0 hb
 replace S_w0 := rb S_w0 hb
 replace S_x0 := sb S_x0 hb
 replace S_g0 := rb S_g0 hb
 replace S_y0 := sb S_y0 hb
 replace HB := Aside0.mk (below_step oB hb)
 clear hb hHeld
 refine hk_ hK 30 oH (fun hHeld => ?_)
 clear hK K
 refine pu_ 4 31 HT_ ?_
 refine dn_ HT_ ?_
 clear hHeld HT_ HW_
 have Z_aT := z2 K_aT
 have Y_aT := zz2 K_aT
 have Z_x0 := z2 K_x0
 have Y_x0 := zz2 K_x0
 clear S_y0
 go_wp2_with fail
 refine (laws_markTab.calls k _ _ tl tn 1 mt ml w _ HB.out S_x0.out H7.out).mono ?_
 rintro e w10 ⟨rfl, h_x0, hb, hk⟩
 have n10 : w9.heap.size ≤ w10.heap.size := hk.1
 replace S_w0 := rk S_w0 hk (fun q h h' => by omega)
 replace S_g0 := rk S_g0 hk (fun q h h' => by omega)
 replace K_aT := bkept K_aT hk (fun h => by omega)
 clear K_x0 Z_x0 Y_x0
 clear S_x0
 clear h_x0
 replace HB := Aside0.mk hb
 clear hb hk
 replace Z_aT := z2 K_aT
 replace Y_aT := zz2 K_aT
 go_wp2_with fail
 refine (laws_eqStringS.calls k _ _ s1 _ _ p1 true _ (kO S_g0) (rlR S_g0) (kO S_w0) (rlR S_w0) H5.out).mono ?_
 rintro e w11 ⟨rfl, hb⟩
 replace hb := Drawn0.below hb
 have n11 : w10.heap.size ≤ w11.heap.size := by have := hb.size; simpa using this
 replace K_aT := bstep K_aT hb
 replace S_w0 := rb S_w0 hb
 replace S_g0 := rb S_g0 hb
 replace HB := Aside0.mk (below_step oB hb)
 clear hb
 replace Z_aT := z2 K_aT
 replace Y_aT := zz2 K_aT
 go_wp2_with fail
 refine (laws_markStringS.calls k _ _ s1 1 q mg w _ HB.out S_g0.out H8.out).mono ?_
 rintro e w12 ⟨rfl, h_g0, hb, hk⟩
 have n12 : w11.heap.size ≤ w12.heap.size := hk.1
 replace S_w0 := rk S_w0 hk (fun q h h' => by omega)
 replace K_aT := bkept K_aT hk (fun h => by omega)
 replace S_g0 := Aside0.mk h_g0
 clear h_g0
 replace HB := Aside0.mk hb
 clear hb hk
 replace Z_aT := z2 K_aT
 replace Y_aT := zz2 K_aT
 go_wp2_with fail
 refine (laws_heldStringS.calls' k _ _ _ mg 1 q _ L4.out (kO S_g0) (rlR S_g0) H9.out).mono ?_
 rintro e w13 ⟨rfl, hb⟩
 have n13 : w12.heap.size ≤ w13.heap.size := by have := hb.size; simpa using this
 replace K_aT := bstep K_aT hb
 replace S_w0 := rb S_w0 hb
 replace S_g0 := rb S_g0 hb
 replace HB := Aside0.mk (below_step oB hb)
 clear hb
 replace Z_aT := z2 K_aT
 replace Y_aT := zz2 K_aT
 go_wp2_with fail
 refine (laws_toTab.calls k _ _ l0_0 a0_1 tl tn _ (kC HR0_0) HC0_0.out H2.out).mono ?_
 rintro e w14 ⟨v_z0, rfl, h_z0, hb⟩
 obtain ⟨A_z0, c_z0, rfl⟩ := Kd.S_slice h_z0
 have S_z0 := siv' h_z0 (w13.heap.size) w.heap.size (by simp) (below_size oB)
 clear h_z0
 have n14 : w13.heap.size ≤ w14.heap.size := by have := hb.size; simpa using this
 replace K_aT := bstep K_aT hb
 replace S_w0 := rb S_w0 hb
 replace S_g0 := rb S_g0 hb
 replace HB := Aside0.mk (below_step oB hb)
 clear hb
 replace Z_aT := z2 K_aT
 replace Y_aT := zz2 K_aT
 go_wp2_with fail
 refine (impl_PathsOf.calls k _ _ tl tn s1 _ (rS S_z0) (rl S_z0) H4.out).mono ?_
 rintro e w15 ⟨v_h0, rfl, h_h0, hb⟩
 obtain ⟨A_h0, c_h0, rfl⟩ := Kd.R_slice h_h0
 have S_h0 := riv' h_h0 (w14.heap.size) w.heap.size (by simp) (below_size oB)
 clear h_h0
 have n15 : w14.heap.size ≤ w15.heap.size := by have := hb.size; simpa using this
 replace K_aT := bstep K_aT hb
 replace S_w0 := rb S_w0 hb
 replace S_g0 := rb S_g0 hb
 replace S_z0 := sb S_z0 hb
 replace HB := Aside0.mk (below_step oB hb)
 clear hb
 replace Z_aT := z2 K_aT
 replace Y_aT := zz2 K_aT
 go_wp2_with fail
 refine (laws_eqStringS.calls k _ _ s1 _ _ p1 true _ (kO S_h0) (rlR S_h0) (kO S_w0) (rlR S_w0) H5.out).mono ?_
 rintro e w16 ⟨rfl, hb⟩
 replace hb := Drawn0.below hb
 have n16 : w15.heap.size ≤ w16.heap.size := by have := hb.size; simpa using this
 replace K_aT := bstep K_aT hb
 replace S_w0 := rb S_w0 hb
 replace S_g0 := rb S_g0 hb
 replace S_z0 := sb S_z0 hb
 replace S_h0 := rb S_h0 hb
 replace HB := Aside0.mk (below_step oB hb)
 clear hb
 replace Z_aT := z2 K_aT
 replace Y_aT := zz2 K_aT
 go_wp2_with fail
 refine (laws_heldStringS.calls' k _ _ _ mg 1 q _ L4.out (kO S_g0) (rlR S_g0) H9.out).mono ?_
 rintro e w17 ⟨rfl, hb⟩
 have n17 : w16.heap.size ≤ w17.heap.size := by have := hb.size; simpa using this
 replace K_aT := bstep K_aT hb
 replace S_w0 := rb S_w0 hb
 replace S_g0 := rb S_g0 hb
 replace S_z0 := sb S_z0 hb
 replace S_h0 := rb S_h0 hb
 replace HB := Aside0.mk (below_step oB hb)
 clear hb
 replace Z_aT := z2 K_aT
 replace Y_aT := zz2 K_aT
 go_wp2_with fail
 go_ret
 exact ⟨rfl, oB⟩
end Go.Proofs.YtolkhimbfegkkaaGreat.P
