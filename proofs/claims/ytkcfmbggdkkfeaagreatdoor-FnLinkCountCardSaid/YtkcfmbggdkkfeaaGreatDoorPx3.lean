-- By this session's own program (wip/myprint.py) out of the translation; Lean checks it.
import Derived.Test.YtkcfmbggdkkfeaaGreatDoorPx0
import Derived.Test.YtkcfmbggdkkfeaaGreatDoorPx1
import Derived.Test.YtkcfmbggdkkfeaaGreatDoorPx2
namespace Go.Proofs.YtkcfmbggdkkfeaaGreatDoor.P
open Go.RowKit Go.Proofs.YtkcfmbggdkkfeaaGreatDoorW.PrintWords Go.Proofs.YtkcfmbggdkkfeaaGreatDoorW.PrintLast Go.Proofs.YtkcfmbggdkkfeaaGreatDoorW.PrintMore
attribute [local go_sem] max2_int min2_int max_two min_two max_three min_three max_four min_four   -- for this text's walks alone
set_option linter.unusedVariables false
set_option linter.unusedSimpArgs false

/-! ### laws_at: function 20 -/
def laws_at.f (l0 : List Int) (a1 : Int) : Option (Int) := if a1 < (l0.length : Int) then (if 0 ≤ a1 then (some (wrap64 (rd l0 a1))) else (none)) else (some (Int.tmod (wrap64 ((wrap64 (a1 * 31)) + (wrap64 ((l0.length : Int) * 7)))) 256))
set_option maxHeartbeats 8000000 in
set_option maxRecDepth 100000 in
theorem laws_at.calls (A0 : Option Addr) (c0 : Nat) (l0 : List Int) (a1 : Int) (r : Int) (w : World) (hr0 : Kd.C (Kd.int .u8) w A0 l0.length l0) (hc0 : l0.length ≤ c0) (h : laws_at.f l0 a1 = some r) :
  Calls Tryz.prog 20 #[.slice A0 l0.length c0, .int .i64 a1] w fun e w' => e = .returned (.int .i64 r) ∧ Drawn0 w w' := by
 have HR0 := Aside0.mk hr0
 have HC0 := Aside0.mk hc0
 clear hr0 hc0
 unfold laws_at.f at h
 have H := h
 clear h
 replace H := itD H
 rcases H with ⟨c3b0, H⟩ | ⟨c3b0, H⟩
 ·replace H := itD H
  rcases H with ⟨c4b0, H⟩ | ⟨c4b0, H⟩
  ·obtain rfl := Option.some.inj H
   have p230 : (0 ≤ (a1 : Int)) = True := oT
   have q230 : (a1 < (l0.length : Int)) = True := oT
   obtain ⟨ad230, e230, hx230_0⟩ := Kd.at_int HR0.out a1 oa oa
   cases e230
   go_enter Tryz.func20, Tryz.ntmps20
   go_wp2
   go_ret
   exact ⟨oS, oD⟩
  ·cases H
 ·obtain rfl := Option.some.inj H
  go_enter Tryz.func20, Tryz.ntmps20
  go_wp2
  go_ret
  exact ⟨oS, oD⟩

/-! ### slices_Contains_int_int: function 67 -/
theorem rSpotC {α : Type} {d : Kd α} {e base n c : Nat} {ok : Nat → Prop} {w : World} {A : Option Addr} {xs : List α} (h : d.R e w base ok (.slice A n c) xs) : ∀ ad, A = some ad → 0 < xs.length → ad.spot = none := by
 intro ad hA _
 subst hA
 obtain ⟨g, rfl⟩ := Kd.R_head h
 rfl
def slices_Contains_int_int.f (l : List Int) (x : Int) : Option Bool := if l.length ≤ 9223372036854775807 then some (l.contains x) else none
theorem slices_Contains_int_int.calls (A0 : Option Addr) (c0 : Nat) (l0 : List Int) (a1 : Int) (r : Bool) (w : World) (hr0 : Kd.C (Kd.int .i64) w A0 l0.length l0) (hc0 : l0.length ≤ c0) (h : slices_Contains_int_int.f l0 a1 = some r) (hA : ∀ ad, A0 = some ad → 0 < l0.length → ad.spot = none := by first | exact rSpotC (by first | (with_reducible assumption) | exact Aside0.out (by with_reducible assumption))) :
  Calls Tryz.prog 67 #[.slice A0 l0.length c0, .int .i64 a1] w fun e w' => e = .returned (.bool r) ∧ Below w.heap.size w w' := by
 unfold slices_Contains_int_int.f at h
 split at h
 case isFalse => cases h
 case isTrue hl =>
 obtain rfl := Option.some.inj h
 by_cases h0 : l0.length = 0
 ·obtain rfl := List.eq_nil_of_length_eq_zero h0
  exact (Any.slices_Contains_int_empty Tryz.lays107 A0 c0 a1 w).mono fun e w' ⟨he, hw⟩ => ⟨he, hw ▸ Below.refl _ _⟩
 ·obtain ⟨ad, e0, _⟩ := Kd.at_int hr0 0 (by omega) (by omega)
  subst e0
  have hsp := hA ad rfl (by omega)
  obtain ⟨bk, o, sp⟩ := ad
  have hsp : sp = none := hsp
  subst hsp
  refine (Any.slices_Contains_int Tryz.lays107 bk o l0.length c0 l0 a1 w (Nat.le_refl _) hl (fun j hj => ?_)).mono fun e w' ⟨he, hw⟩ => ⟨by rw [he, List.take_length], hw ▸ Below.refl _ _⟩
  obtain ⟨ad', e', hx⟩ := Kd.at_int hr0 (j : Int) (by omega) (by omega)
  injection e' with e'
  subst e'
  rw [Int.toNat_natCast, Addr.add_lit] at hx
  rw [hx]
  simp [rd]
/-! ### impl_from: function 47 -/
def impl_from.f (a0 : Int) (a1 : Int) (a2 : Int) : Option (Bool) := if a0 ≥ a1 then (some (decide (a0 ≤ a2))) else (some false)
set_option maxHeartbeats 8000000 in
set_option maxRecDepth 100000 in
theorem impl_from.calls (a0 : Int) (a1 : Int) (a2 : Int) (r : Bool) (w : World) (h : impl_from.f a0 a1 a2 = some r) :
  Calls Tryz.prog 47 #[.int .i64 a0, .int .i64 a1, .int .i64 a2] w fun e w' => e = .returned (.bool r) ∧ Drawn0 w w' := by
 unfold impl_from.f at h
 have H := h
 clear h
 replace H := itH H
 rcases H with ⟨c4b0, H⟩ | ⟨c4b0, H⟩
 ·obtain rfl := Option.some.inj H
  go_enter Tryz.func47, Tryz.ntmps47
  go_wp2
  go_ret
  exact ⟨oS, oD⟩
 ·obtain rfl := Option.some.inj H
  go_enter Tryz.func47, Tryz.ntmps47
  go_wp2
  go_ret
  exact ⟨oS, oD⟩

/-! ### slices_Sort_int_int: function 68 -/
def sortI (l : List Int) : List Int := l.mergeSort fun x y => decide (x ≤ y)
theorem sortI_length (l : List Int) : (sortI l).length = l.length := List.length_mergeSort ..
/-- slices.Sort of a row of the call's own: it is in order behind it. -/
theorem sortOwn.calls (A : Option Addr) (c b0 : Nat) (ok : Nat → Prop) (l : List Int) (w : World) (ho : Kd.R (Kd.int .i64) 3 w b0 ok (.slice A l.length c) l) (hl : l.length < 4611686018427387904) :
  Calls Tryz.prog 68 #[.slice A l.length c] w fun e w' => e = .returned (.tuple #[]) ∧ Kd.R (Kd.int .i64) 3 w' b0 ok (.slice A l.length c) (sortI l) ∧ w.grownBy w' (Value.slice A l.length c).ownBlock := by
 have ho' := ho
 obtain ⟨hok, inner, ⟨hil, hown⟩, hrep⟩ := ho
 rcases hown with ⟨he, h0⟩ | ⟨g, cap, cur, he, hbg, hh, hnc, hcm, hcs, hin⟩
 ·obtain rfl := List.eq_nil_of_length_eq_zero h0
  refine (Any.slices_Sort_int_none Tryz.lays189 A c w).mono fun e w' ⟨he, hw⟩ => ⟨he, ?_, ?_⟩
  ·subst hw; rw [show sortI [] = [] from List.eq_nil_of_length_eq_zero (by rw [sortI_length]; rfl)]; exact ho'
  ·subst hw; exact ⟨rfl, rfl, rfl, Nat.le_refl _, fun _ _ _ => rfl⟩
 ·injection he with ha _ hc
  subst ha; subst hc
  rw [show (Kd.int .i64).sz = 1 from rfl] at hil hcs hin hrep
  have hen := Kd.reps_encs (enc := Value.int .i64) hrep
  rw [hen, Nat.mul_one] at hin
  have hgw : g < w.heap.size := blk_lt hh
  refine (Any.slices_Sort_int Tryz.lays189 g 0 c l w (holds_of_blockI hh hin) hgw hl).mono fun e w' ⟨he, n, os, hw⟩ => ?_
  subst hw
  refine ⟨he, ⟨fun k hk => hok k hk, (sortI l).map (Value.int .i64), ?_, ?_⟩, grownBy_sortedI _⟩
  ·rw [sortI_length]
   exact ownsRow_sortedI (ss := l) (sortI_length l) hbg hh hnc hcm hcs
  ·exact Kd.reps_scalar (enc := Value.int .i64) (sortI l)
/-! ### strings_Split: function 36 -/
def GOk (w : World) : Prop := ∃ m, w.cell? ⟨Tryz.laysM146_ren.g 1, 0, none⟩ = some (.int .i64 m)
theorem gk_ {w W : World} (h : Below w.heap.size w W) (hg : Aside0 (GOk w)) : GOk W := by
 obtain ⟨m, hm⟩ := hg.out
 exact ⟨m, pw_cell_below h hm⟩
def strings_Split.f (a0 a1 : ByteArray) : Option (List ByteArray) := if a0.size < 4294967281 ∧ 1 ≤ a1.size then some (Lib.splitB a1 0 (Lib.countB a0 a1) a0) else none
theorem strings_Split.calls (a0 a1 : ByteArray) (r : List ByteArray) (w : World) (h : strings_Split.f a0 a1 = some r) (hG : GOk w := by exact gk_ oB (by first | (with_reducible assumption) | assumption)) :
  Calls Tryz.prog 36 #[.string a0, .string a1] w fun e w' => ∃ v0_ : Value, e = .returned (v0_) ∧ Kd.R Kd.string 9 w' w.heap.size (fun _ => True) v0_ r ∧ Below w.heap.size w w' := by
 unfold strings_Split.f at h
 split at h
 case isFalse => cases h
 case isTrue hc =>
 obtain rfl := Option.some.inj h
 obtain ⟨m, hm⟩ := hG
 have hl := Lib.splitB_all a1 hc.2 0 _ a0 rfl
 have hle := Lib.countB_le a1 hc.2 a0.size a0 (Nat.le_refl _)
 refine (Any.strings_Split { Tryz.laysM146 with } (by kernel_rfl) a0 a1 m w hc.1 hm hc.2).mono fun e w' ⟨he, hw⟩ => ?_
 subst hw
 refine ⟨_, he, ?_, (Below.refl _ _).alloc (Nat.le_refl _) _⟩
 refine Kd.R_of_own (enc := Value.string) (h1 := fun _ => rfl) ?_ (fun _ _ => trivial)
 have ho := World.ownsRow_lit (base := w.heap.size) (e := 9) (size := 1) w ((Lib.splitB a1 0 (Lib.countB a0 a1) a0).map Value.string).toArray (Lib.countB a0 a1 + 1) (Nat.le_refl _) (by simp only [maxLen]; omega) (by simp [hl])
 rw [← hl] at ho
 rw [show (Tryz.laysM146_ren.t 9) = 9 from rfl, ← hl]
 simpa [encs] using ho
/-! ### impl_TabNew: function 12 -/
def impl_TabNew.f  : Option ((List (S51)) × Int) := some ((([(⟨1, 2, 0, ([] : List Int), ([] : List (S65)), ([] : List (S71))⟩ : S51)] : List (S51))), 2)
set_option maxHeartbeats 8000000 in
set_option maxRecDepth 100000 in
theorem impl_TabNew.calls  (r1 : List (S51)) (r2 : Int) (w : World) (h : impl_TabNew.f  = some (r1, r2)) :
  Calls Tryz.prog 12 #[] w fun e w' => ∃ v0_ : Value, e = .returned (.agg #[v0_, .int .i64 r2]) ∧ Kd.S k51 51 w' w.heap.size (fun _ => True) v0_ r1 ∧ Below w.heap.size w w' := by
 have hu26 := Tryz.underlying26
 have hu51 := Tryz.underlying51
 have HB := Aside0.mk (Below.refl w.heap.size w)
 unfold impl_TabNew.f at h
 have H := h
 clear h
 obtain ⟨y232, hy232⟩ : ∃ y_ : List (S51), y_ = (([(⟨1, 2, 0, ([] : List Int), ([] : List (S65)), ([] : List (S71))⟩ : S51)] : List (S51))) := ⟨_, rfl⟩
 replace H : (some (y232, 2)) = some (r1, r2) := by first | (rw [hy232]; with_reducible exact H) | (have H2_ := (Option.bind_some _ _).symm.trans H; rw [hy232]; with_reducible exact H2_) | (have H2_ := (Option.bind_some _ _).symm.trans H; with_reducible exact H2_) | with_reducible exact H | (rw [hy232]; exact H) | exact H
 have Ny232 := Aside0.mk hy232
 clear hy232
 simp only [Option.some.injEq, Prod.mk.injEq] at H
 obtain ⟨rfl, rfl⟩ := H
 go_enter Tryz.func12, Tryz.ntmps12
 go_wp2_with (first | ((with_reducible refine gate_dst (N := 0) rfl ?_); refine bx_ 0 #[.slice none 0 0, .int .i64 0] 26 ?_; intro gb231 hg w1 hbox hb; have BK231 := Aside0.mk (hbox); have GW231 := gs_ hg; replace HB := Aside0.mk (below_step oB hb); clear hb hbox hg) | ((with_reducible refine gate_dst (N := 2) rfl ?_); refine Kd.S_lit k51 _ 51 ?hg (N := 2) ?hd (xs := ([(⟨1, 2, 0, ([] : List Int), ([] : List (S65)), ([] : List (S71))⟩ : S51)] : List (S51))) (inner := [.int .i64 1, .int .i64 2, .int .i64 0, .slice none 0 0, .slice none 0 0, .slice none 0 0]) (ok := fun _ => True) (okp := fun _ => True) ?hr ?hp (fun _ hk => hk) trivial (Below.refl _ _) (Nat.le_refl _) (by simp) ?_; (case hd => rfl); (case hg => rfl); (case hr => first | (go_simp; done) | (go_simp; rfl)); (case hp => exact (Reps.c6 (show Kd.M k51 _ _ _ (⟨1, 2, 0, ([] : List Int), ([] : List (S65)), ([] : List (S71))⟩ : S51) [.int .i64 1, .int .i64 2, .int .i64 0, .slice none 0 0, .slice none 0 0, .slice none 0 0] from (k51_mkM _ _ _ (⟨1, 2, 0, ([] : List Int), ([] : List (S65)), ([] : List (S71))⟩ : S51) (Kd.R_nil _ _ _ _ _) (Kd.R_nil _ _ _ _ _) (Kd.R_nil _ _ _ _ _))) (Reps.none _ _))); intro v233 w2 ho3 hb hg_ hnew_; clear hg_ hnew_; (first | rw [← Ny232.out] at ho3 | (simp only [Int.reduceToNat] at ho3; rw [← Ny232.out] at ho3)); have HO234 := Aside0.mk (Kd.S_lower ho3 (below_size oB)); replace BK231 := kb_ BK231 hb; replace HB := Aside0.mk (below_step oB hb); clear hb ho3; obtain ⟨Ao4, co4, eo4⟩ := Kd.S_slice HO234.out; subst eo4; obtain ⟨⟨_, _⟩, _, _⟩ := z2 BK231))
 refine bodyPost_ret (results_cell_row rfl _ _ gb231 26 #[.slice Ao4 y232.length co4, .int .i64 2] (0, 0) _ rfl (oP BK231) Tryz.underlying26 rfl (by kernel_rfl)) rfl ?_
 exact ⟨_, oE, by (with_reducible repeat (first | apply Kd.S_alloc | apply Kd.S_drewN | apply Kd.S_drew)); exact Kd.S_mono (Kd.S_far (p := ⟨gb231, 1, none⟩) (Kd.S_far (p := ⟨gb231, 0, none⟩) (Kd.S_types HO234.out BK231.out (by decide)) (fun _ hk => hk.2) (.slice Ao4 y232.length co4)) (fun _ hk => hk.2) (.int .i64 2)) (fun _ hk => trivial), oB⟩

/-! ### impl_sized: function 49 -/
def impl_sized.f (l0 : List Int) (a1 : Int) : Option (List Int) := if 0 ≤ a1 ∧ a1.toNat ≤ 281474976710656 then some (l0.take (min l0.length a1.toNat) ++ (List.replicate a1.toNat 0).drop (min l0.length a1.toNat)) else none
set_option maxHeartbeats 1000000 in
set_option maxRecDepth 100000 in
theorem impl_sized.calls (A0 : Option Addr) (c0 : Nat) (l0 : List Int) (a1 : Int) (r : List Int) (w : World) (hr0 : Kd.C (Kd.int .u8) w A0 l0.length l0) (hc0 : l0.length ≤ c0) (h : impl_sized.f l0 a1 = some r) :
  Calls Tryz.prog 49 #[.slice A0 l0.length c0, .int .i64 a1] w fun e w' => ∃ v0_ : Value, e = .returned (v0_) ∧ Kd.R (Kd.int .u8) 5 w' w.heap.size (fun _ => True) v0_ r ∧ Below w.heap.size w w' := by
 unfold impl_sized.f at h
 split at h
 case isFalse => cases h
 case isTrue hl =>
 obtain ⟨h0, h1⟩ := hl
 obtain rfl := Option.some.inj h
 have H1 := Aside0.mk h1
 have H0 := Aside0.mk h0
 have HR0 := Aside0.mk hr0
 clear h h1 hr0
 have HB := Aside0.mk (Below.refl w.heap.size w)
 go_enter Tryz.func49, Tryz.ntmps49
 go_wp2_with (first | ((with_reducible refine gate_dst (N := 7) rfl ?_); refine Kd.R_make (Kd.int .u8) _ 5 rfl (N := 7) rfl 22 _ _ rfl a1 rfl rfl Tryz.underlying22 (.int .u8 0) 1 info5 rfl (by decide) (by omega) 0 (ok := fun _ => True) (okp := fun _ => True) rfl (fun _ hk => hk) trivial H0.out (by have := H1.out; omega) (Below.refl _ _) (Nat.le_refl _) ?_; intro v7 w1 ho hb hg_ hnew_; clear hg_ hnew_; have HO := Aside0.mk (Kd.R_lower ho (below_size oB)); replace HB := Aside0.mk (below_step oB hb); clear hb ho) | ((with_reducible refine gate_builtin (b := .copy) rfl ?_); refine Kd.R_copy (enc := fun n => Value.int .u8 n) (h1 := fun _ => rfl) 0 (w0 := w) w.heap.size rfl (.tmp 8) (.tmp 9) 22 22 5 rfl Tryz.underlying22 (by kernel_rfl) v7 _ l0 A0 l0.length c0 (fun _ => True) rfl rfl (oR HO) (kC HR0) oB (below_size oB) ?_; intro w2 ho hb hg; rw [List.length_replicate] at ho; have HO2 := Aside0.mk ho; replace HB := Aside0.mk hb; clear ho hb hg HO))
 go_ret
 exact ⟨_, rfl, oR HO2, oB⟩
/-! ### laws_big: function 11 -/
def laws_big.f (l0 : List Int) : Option (Bool) := some (decide ((l0.length : Int) > 1048576))
set_option maxHeartbeats 8000000 in
set_option maxRecDepth 100000 in
theorem laws_big.calls (A0 : Option Addr) (c0 : Nat) (l0 : List Int) (r : Bool) (w : World) (hr0 : Kd.C (Kd.int .u8) w A0 l0.length l0) (hc0 : l0.length ≤ c0) (h : laws_big.f l0 = some r) :
  Calls Tryz.prog 11 #[.slice A0 l0.length c0] w fun e w' => e = .returned (.bool r) ∧ Drawn0 w w' := by
 have HR0 := Aside0.mk hr0
 have HC0 := Aside0.mk hc0
 clear hr0 hc0
 unfold laws_big.f at h
 have H := h
 clear h
 obtain rfl := Option.some.inj H
 go_enter Tryz.func11, Tryz.ntmps11
 go_wp2
 go_ret
 exact ⟨oS, oD⟩

-- NOT PRINTED: function 69 (slices_IndexFunc_Inode)

-- NOT PRINTED: function 91 (slices_IndexFunc_string_string)

-- NOT PRINTED: function 64 (slices_ContainsFunc_string_string)

-- NOT PRINTED: function 107 (impl_Inode_107)

-- NOT PRINTED: function 146 (slices_Reverse_Inode)

-- NOT PRINTED: function 132 (impl_Inode_132)

-- NOT PRINTED: function 108 (impl_Inode_108)

-- NOT PRINTED: function 134 (strings_Join)

-- NOT PRINTED: function 79 (slices_IndexFunc_Ent)

-- NOT PRINTED: function 111 (impl_Ent_111)

-- NOT PRINTED: function 150 (slices_Reverse_Ent)

-- NOT PRINTED: function 135 (impl_Ent_135)

-- NOT PRINTED: function 112 (impl_Ent_112)

-- NOT PRINTED: function 83 (slices_DeleteFunc_Ent)

-- NOT PRINTED: function 85 (slices_DeleteFunc_Inode)

/-! ### impl_attrsOk: function 92 -/
def impl_attrsOk.l0 : Nat → List (S71) → List (S71) → Int → Int → Option (Bool)
 | 0, _, _, _, _ => none
 | k + 1, x0, x5, x6, x7 => if x7 < x6 then (if 0 ≤ x7 then (if x7 < (x5.length : Int) then ((impl_NameOk.f k ((rd_T71 x5 x7).f0)).bind fun t148 => (if t148 = true then ((impl_from.f (((rd_T71 x5 x7).f1).size : Int) 1 16).bind fun t149 => (if t149 = true then (if x7 > 0 then (if 0 ≤ (wrap64 (x7 - 1)) then (if (wrap64 (x7 - 1)) < (x0.length : Int) then (if ((Op.bytesLess (((rd_T71 x0 (wrap64 (x7 - 1))).f0).toList) (((rd_T71 x5 x7).f0).toList)) = true) then (impl_attrsOk.l0 k x0 x5 x6 (wrap64 (x7 + 1))) else (some false)) else (none)) else (none)) else (impl_attrsOk.l0 k x0 x5 x6 (wrap64 (x7 + 1)))) else (some false))) else (some false))) else (none)) else (none)) else (some (decide ((x0.length : Int) ≤ 4)))
def impl_attrsOk.f (k : Nat) (l0 : List (S71)) : Option (Bool) := impl_attrsOk.l0 k l0 l0 (l0.length : Int) 0
set_option maxHeartbeats 8000000 in
set_option maxRecDepth 100000 in
theorem impl_attrsOk.calls (k : Nat) (A0 : Option Addr) (c0 : Nat) (l0 : List (S71)) (r : Bool) (w : World) (hr0 : Kd.C k71 w A0 l0.length l0) (hc0 : l0.length ≤ c0) (h : impl_attrsOk.f k l0 = some r) :
  Calls Tryz.prog 92 #[.slice A0 l0.length c0] w fun e w' => e = .returned (.bool r) ∧ Below w.heap.size w w' := by
 have hu71 := Tryz.underlying71
 have HR0 := Aside0.mk hr0
 have HC0 := Aside0.mk hc0
 clear hr0 hc0
 have HB := Aside0.mk (Below.refl w.heap.size w)
 unfold impl_attrsOk.f at h
 have H := h
 clear h
 have H' := Aside0.mk H
 clear H
 go_enter Tryz.func92, Tryz.ntmps92
 go_wp2
 repeat (go_quiet (fail); try go_wp2)
 go_loopg [7] k (fun kq v7 w' => ∃ (x7_1 : Int), v7 = .int .i64 x7_1 ∧ Aside0 (impl_attrsOk.l0 kq l0 l0 (l0.length : Int) x7_1 = some r) ∧ Aside0 (kq ≤ k) ∧ Aside0 (Below w.heap.size w w'))
 case atStart => exact ⟨(0), oS, H', ⟨Nat.le_refl _⟩, ⟨oB⟩⟩
 case round =>
  clear H'
  obtain ⟨x7_1, rfl, HA, HK1, HB⟩ := hrel
  cases gk with
  | zero => exact absurd HA.out (by simp [impl_attrsOk.l0])
  | succ k1 =>
   have H := HA.out
   clear HA
   simp only [impl_attrsOk.l0] at H
   replace H := itD H
   rcases H with ⟨c2b0, H⟩ | ⟨c2b0, H⟩
   ·replace H := itD H
    rcases H with ⟨c3b0, H⟩ | ⟨c3b0, H⟩
    ·replace H := itD H
     rcases H with ⟨c4b0, H⟩ | ⟨c4b0, H⟩
     ·replace H := bA H
      obtain ⟨t148, A5, H⟩ := H
      try dsimp only at H
      replace H := itB H
      rcases H with ⟨rfl, H⟩ | ⟨rfl, H⟩
      ·replace H := bA H
       obtain ⟨t149, A7, H⟩ := H
       try dsimp only at H
       replace H := itB H
       rcases H with ⟨rfl, H⟩ | ⟨rfl, H⟩
       ·replace H := itG H
        rcases H with ⟨c9b0, H⟩ | ⟨c9b0, H⟩
        ·obtain ⟨ji10, hji10⟩ : ∃ j_ : Int, (wrap64 (x7_1 - 1)) = j_ := ⟨_, rfl⟩
         replace H : (if 0 ≤ (ji10) then (if (ji10) < (l0.length : Int) then (if ((Op.bytesLess (((rd_T71 l0 (ji10)).f0).toList) (((rd_T71 l0 x7_1).f0).toList)) = true) then (impl_attrsOk.l0 k1 l0 l0 (l0.length : Int) (wrap64 (x7_1 + 1))) else (some false)) else (none)) else (none)) = some r := by first | (rw [hji10] at H; exact H) | (simp only [hji10] at H ⊢; exact H)
         (try rw [hji10] at A5)
         (try rw [hji10] at A7)
         have hji10w : (IntKind.i64.wrap (x7_1 - 1)) = ji10 := (i64_w _).trans hji10
         replace H := itD H
         rcases H with ⟨c11b0, H⟩ | ⟨c11b0, H⟩
         ·replace H := itD H
          rcases H with ⟨c12b0, H⟩ | ⟨c12b0, H⟩
          ·by_cases c13 : ((Op.bytesLess (((rd_T71 l0 (ji10)).f0).toList) (((rd_T71 l0 x7_1).f0).toList)) = true)
           ·rw [if_pos c13] at H
            have c13b0 : (Op.bytesLess (((rd_T71 l0 (ji10)).f0).toList) (((rd_T71 l0 x7_1).f0).toList)) = true := c13
            clear c13
            have H' := Aside0.mk H
            clear H
            have p146 : (0 ≤ (x7_1 : Int)) = True := oT
            have q146 : (x7_1 < (l0.length : Int)) = True := oT
            obtain ⟨ad146, e146, hx146_0, hx146_1⟩ := at_T71 HR0.out x7_1 oa oa
            cases e146
            replace hx146_0 := cB HB hx146_0
            replace hx146_1 := cB HB hx146_1
            go_wp2_with (first | ((with_reducible refine gate_dst (N := 4) rfl ?_); (try (refine gate_guard (by rfl) ?_; dsimp only)); refine bx_ 4 #[.string (⟨#[]⟩ : ByteArray), .string (⟨#[]⟩ : ByteArray)] 71 ?_; intro gb147 hg w14 hbox hb; have BK147 := Aside0.mk (hbox); have GW147 := gs_ hg; replace HB := Aside0.mk (below_step oB hb); clear hb hbox hg; obtain ⟨⟨_, _⟩, _, _⟩ := z2 BK147) | (go_at_call 52; (with_reducible refine (impl_NameOk.calls k1 ((rd_T71 l0 x7_1).f0) true _ A5.out).mono ?_); rintro e w' ⟨rfl, ⟨nd, rfl⟩⟩) | (go_at_call 47; (with_reducible refine (impl_from.calls (((rd_T71 l0 x7_1).f1).size : Int) 1 16 true _ A7.out).mono ?_); rintro e w' ⟨rfl, ⟨nd, rfl⟩⟩; have p150 : (0 ≤ ((ji10) : Int)) = True := oT; have q150 : ((ji10) < (l0.length : Int)) = True := oT; obtain ⟨ad150, e150, hx150_0, hx150_1⟩ := at_T71 HR0.out (ji10) oa oa; obtain rfl : ad146 = ad150 := (by injection e150); have hn150_0 : ad146.block ≠ gb147 := cn_ hx150_0 GW147; have hn150_1 : ad146.block ≠ gb147 := cn_ hx150_0 GW147; replace hx150_0 := cB HB hx150_0; replace hx150_1 := cB HB hx150_1; replace hx150_0 := cf_ 0 (.string ((rd_T71 l0 x7_1).f0)) hn150_0 hx150_0; replace hx150_1 := cf_ 0 (.string ((rd_T71 l0 x7_1).f0)) hn150_0 hx150_1; replace hx150_0 := cf_ 1 (.string ((rd_T71 l0 x7_1).f1)) hn150_1 hx150_0; replace hx150_1 := cf_ 1 (.string ((rd_T71 l0 x7_1).f1)) hn150_1 hx150_1; (try have hy150_0 := fun (n_ : Nat) => (show ((((w14.drewN n_).setCell ⟨gb147, 0, none⟩ (.string ((rd_T71 l0 x7_1).f0))).setCell ⟨gb147, 1, none⟩ (.string ((rd_T71 l0 x7_1).f1)))).cell? _ = some _ from hx150_0)); (try have hy150_1 := fun (n_ : Nat) => (show ((((w14.drewN n_).setCell ⟨gb147, 0, none⟩ (.string ((rd_T71 l0 x7_1).f0))).setCell ⟨gb147, 1, none⟩ (.string ((rd_T71 l0 x7_1).f1)))).cell? _ = some _ from hx150_1)); clear hn150_0; clear hn150_1))
            try (have p150 : 0 ≤ ((ji10) : Int) := oa; have q150 : (ji10) < (l0.length : Int) := oa; obtain ⟨ad150, e150, hx150_0, hx150_1⟩ := at_T71 HR0.out (ji10) p150 q150; obtain rfl : ad146 = ad150 := (by injection e150); have hn150_0 : ad146.block ≠ gb147 := cn_ hx150_0 GW147; have hn150_1 : ad146.block ≠ gb147 := cn_ hx150_0 GW147; replace hx150_0 := cB HB hx150_0; replace hx150_1 := cB HB hx150_1; replace hx150_0 := cf_ 0 (.string ((rd_T71 l0 x7_1).f0)) hn150_0 hx150_0; replace hx150_1 := cf_ 0 (.string ((rd_T71 l0 x7_1).f0)) hn150_0 hx150_1; replace hx150_0 := cf_ 1 (.string ((rd_T71 l0 x7_1).f1)) hn150_1 hx150_0; replace hx150_1 := cf_ 1 (.string ((rd_T71 l0 x7_1).f1)) hn150_1 hx150_1; (try have hy150_0 := fun (n_ : Nat) => (show ((((w14.drewN n_).setCell ⟨gb147, 0, none⟩ (.string ((rd_T71 l0 x7_1).f0))).setCell ⟨gb147, 1, none⟩ (.string ((rd_T71 l0 x7_1).f1)))).cell? _ = some _ from hx150_0)); (try have hy150_1 := fun (n_ : Nat) => (show ((((w14.drewN n_).setCell ⟨gb147, 0, none⟩ (.string ((rd_T71 l0 x7_1).f0))).setCell ⟨gb147, 1, none⟩ (.string ((rd_T71 l0 x7_1).f1)))).cell? _ = some _ from hx150_1)); clear hn150_0; clear hn150_1; replace p150 := eq_true p150; replace q150 := eq_true q150)
            repeat (go_quiet (first | (go_at_call 52; (with_reducible refine (impl_NameOk.calls k1 ((rd_T71 l0 x7_1).f0) true _ A5.out).mono ?_); rintro e w' ⟨rfl, ⟨nd, rfl⟩⟩; exact oQ) | (go_at_call 47; (with_reducible refine (impl_from.calls (((rd_T71 l0 x7_1).f1).size : Int) 1 16 true _ A7.out).mono ?_); rintro e w' ⟨rfl, ⟨nd, rfl⟩⟩; exact oQ)); try go_wp2_with (first | ((with_reducible refine gate_dst (N := 4) rfl ?_); (try (refine gate_guard (by rfl) ?_; dsimp only)); refine bx_ 4 #[.string (⟨#[]⟩ : ByteArray), .string (⟨#[]⟩ : ByteArray)] 71 ?_; intro gb147 hg w14 hbox hb; have BK147 := Aside0.mk (hbox); have GW147 := gs_ hg; replace HB := Aside0.mk (below_step oB hb); clear hb hbox hg; obtain ⟨⟨_, _⟩, _, _⟩ := z2 BK147) | (go_at_call 52; (with_reducible refine (impl_NameOk.calls k1 ((rd_T71 l0 x7_1).f0) true _ A5.out).mono ?_); rintro e w' ⟨rfl, ⟨nd, rfl⟩⟩) | (go_at_call 47; (with_reducible refine (impl_from.calls (((rd_T71 l0 x7_1).f1).size : Int) 1 16 true _ A7.out).mono ?_); rintro e w' ⟨rfl, ⟨nd, rfl⟩⟩; have p150 : (0 ≤ ((ji10) : Int)) = True := oT; have q150 : ((ji10) < (l0.length : Int)) = True := oT; obtain ⟨ad150, e150, hx150_0, hx150_1⟩ := at_T71 HR0.out (ji10) oa oa; obtain rfl : ad146 = ad150 := (by injection e150); have hn150_0 : ad146.block ≠ gb147 := cn_ hx150_0 GW147; have hn150_1 : ad146.block ≠ gb147 := cn_ hx150_0 GW147; replace hx150_0 := cB HB hx150_0; replace hx150_1 := cB HB hx150_1; replace hx150_0 := cf_ 0 (.string ((rd_T71 l0 x7_1).f0)) hn150_0 hx150_0; replace hx150_1 := cf_ 0 (.string ((rd_T71 l0 x7_1).f0)) hn150_0 hx150_1; replace hx150_0 := cf_ 1 (.string ((rd_T71 l0 x7_1).f1)) hn150_1 hx150_0; replace hx150_1 := cf_ 1 (.string ((rd_T71 l0 x7_1).f1)) hn150_1 hx150_1; (try have hy150_0 := fun (n_ : Nat) => (show ((((w14.drewN n_).setCell ⟨gb147, 0, none⟩ (.string ((rd_T71 l0 x7_1).f0))).setCell ⟨gb147, 1, none⟩ (.string ((rd_T71 l0 x7_1).f1)))).cell? _ = some _ from hx150_0)); (try have hy150_1 := fun (n_ : Nat) => (show ((((w14.drewN n_).setCell ⟨gb147, 0, none⟩ (.string ((rd_T71 l0 x7_1).f0))).setCell ⟨gb147, 1, none⟩ (.string ((rd_T71 l0 x7_1).f1)))).cell? _ = some _ from hx150_1)); clear hn150_0; clear hn150_1)))
            go_roundg k1
            case measure => have := HK1.out; omega
            case rel => exact ⟨(wrap64 (x7_1 + 1)), oS, H', ⟨by have := HK1.out; omega⟩, ⟨oB⟩⟩
           ·rw [if_neg c13] at H
            have c13b0 : (Op.bytesLess (((rd_T71 l0 (ji10)).f0).toList) (((rd_T71 l0 x7_1).f0).toList)) = false := by simpa using c13
            clear c13
            obtain rfl := Option.some.inj H
            have p146 : (0 ≤ (x7_1 : Int)) = True := oT
            have q146 : (x7_1 < (l0.length : Int)) = True := oT
            obtain ⟨ad146, e146, hx146_0, hx146_1⟩ := at_T71 HR0.out x7_1 oa oa
            cases e146
            replace hx146_0 := cB HB hx146_0
            replace hx146_1 := cB HB hx146_1
            go_wp2_with (first | ((with_reducible refine gate_dst (N := 4) rfl ?_); (try (refine gate_guard (by rfl) ?_; dsimp only)); refine bx_ 4 #[.string (⟨#[]⟩ : ByteArray), .string (⟨#[]⟩ : ByteArray)] 71 ?_; intro gb147 hg w16 hbox hb; have BK147 := Aside0.mk (hbox); have GW147 := gs_ hg; replace HB := Aside0.mk (below_step oB hb); clear hb hbox hg; obtain ⟨⟨_, _⟩, _, _⟩ := z2 BK147) | (go_at_call 52; (with_reducible refine (impl_NameOk.calls k1 ((rd_T71 l0 x7_1).f0) true _ A5.out).mono ?_); rintro e w' ⟨rfl, ⟨nd, rfl⟩⟩) | (go_at_call 47; (with_reducible refine (impl_from.calls (((rd_T71 l0 x7_1).f1).size : Int) 1 16 true _ A7.out).mono ?_); rintro e w' ⟨rfl, ⟨nd, rfl⟩⟩; have p150 : (0 ≤ ((ji10) : Int)) = True := oT; have q150 : ((ji10) < (l0.length : Int)) = True := oT; obtain ⟨ad150, e150, hx150_0, hx150_1⟩ := at_T71 HR0.out (ji10) oa oa; obtain rfl : ad146 = ad150 := (by injection e150); have hn150_0 : ad146.block ≠ gb147 := cn_ hx150_0 GW147; have hn150_1 : ad146.block ≠ gb147 := cn_ hx150_0 GW147; replace hx150_0 := cB HB hx150_0; replace hx150_1 := cB HB hx150_1; replace hx150_0 := cf_ 0 (.string ((rd_T71 l0 x7_1).f0)) hn150_0 hx150_0; replace hx150_1 := cf_ 0 (.string ((rd_T71 l0 x7_1).f0)) hn150_0 hx150_1; replace hx150_0 := cf_ 1 (.string ((rd_T71 l0 x7_1).f1)) hn150_1 hx150_0; replace hx150_1 := cf_ 1 (.string ((rd_T71 l0 x7_1).f1)) hn150_1 hx150_1; (try have hy150_0 := fun (n_ : Nat) => (show ((((w16.drewN n_).setCell ⟨gb147, 0, none⟩ (.string ((rd_T71 l0 x7_1).f0))).setCell ⟨gb147, 1, none⟩ (.string ((rd_T71 l0 x7_1).f1)))).cell? _ = some _ from hx150_0)); (try have hy150_1 := fun (n_ : Nat) => (show ((((w16.drewN n_).setCell ⟨gb147, 0, none⟩ (.string ((rd_T71 l0 x7_1).f0))).setCell ⟨gb147, 1, none⟩ (.string ((rd_T71 l0 x7_1).f1)))).cell? _ = some _ from hx150_1)); clear hn150_0; clear hn150_1))
            try (have p150 : 0 ≤ ((ji10) : Int) := oa; have q150 : (ji10) < (l0.length : Int) := oa; obtain ⟨ad150, e150, hx150_0, hx150_1⟩ := at_T71 HR0.out (ji10) p150 q150; obtain rfl : ad146 = ad150 := (by injection e150); have hn150_0 : ad146.block ≠ gb147 := cn_ hx150_0 GW147; have hn150_1 : ad146.block ≠ gb147 := cn_ hx150_0 GW147; replace hx150_0 := cB HB hx150_0; replace hx150_1 := cB HB hx150_1; replace hx150_0 := cf_ 0 (.string ((rd_T71 l0 x7_1).f0)) hn150_0 hx150_0; replace hx150_1 := cf_ 0 (.string ((rd_T71 l0 x7_1).f0)) hn150_0 hx150_1; replace hx150_0 := cf_ 1 (.string ((rd_T71 l0 x7_1).f1)) hn150_1 hx150_0; replace hx150_1 := cf_ 1 (.string ((rd_T71 l0 x7_1).f1)) hn150_1 hx150_1; (try have hy150_0 := fun (n_ : Nat) => (show ((((w16.drewN n_).setCell ⟨gb147, 0, none⟩ (.string ((rd_T71 l0 x7_1).f0))).setCell ⟨gb147, 1, none⟩ (.string ((rd_T71 l0 x7_1).f1)))).cell? _ = some _ from hx150_0)); (try have hy150_1 := fun (n_ : Nat) => (show ((((w16.drewN n_).setCell ⟨gb147, 0, none⟩ (.string ((rd_T71 l0 x7_1).f0))).setCell ⟨gb147, 1, none⟩ (.string ((rd_T71 l0 x7_1).f1)))).cell? _ = some _ from hx150_1)); clear hn150_0; clear hn150_1; replace p150 := eq_true p150; replace q150 := eq_true q150)
            repeat (go_quiet (first | (go_at_call 52; (with_reducible refine (impl_NameOk.calls k1 ((rd_T71 l0 x7_1).f0) true _ A5.out).mono ?_); rintro e w' ⟨rfl, ⟨nd, rfl⟩⟩; exact oQ) | (go_at_call 47; (with_reducible refine (impl_from.calls (((rd_T71 l0 x7_1).f1).size : Int) 1 16 true _ A7.out).mono ?_); rintro e w' ⟨rfl, ⟨nd, rfl⟩⟩; exact oQ)); try go_wp2_with (first | ((with_reducible refine gate_dst (N := 4) rfl ?_); (try (refine gate_guard (by rfl) ?_; dsimp only)); refine bx_ 4 #[.string (⟨#[]⟩ : ByteArray), .string (⟨#[]⟩ : ByteArray)] 71 ?_; intro gb147 hg w16 hbox hb; have BK147 := Aside0.mk (hbox); have GW147 := gs_ hg; replace HB := Aside0.mk (below_step oB hb); clear hb hbox hg; obtain ⟨⟨_, _⟩, _, _⟩ := z2 BK147) | (go_at_call 52; (with_reducible refine (impl_NameOk.calls k1 ((rd_T71 l0 x7_1).f0) true _ A5.out).mono ?_); rintro e w' ⟨rfl, ⟨nd, rfl⟩⟩) | (go_at_call 47; (with_reducible refine (impl_from.calls (((rd_T71 l0 x7_1).f1).size : Int) 1 16 true _ A7.out).mono ?_); rintro e w' ⟨rfl, ⟨nd, rfl⟩⟩; have p150 : (0 ≤ ((ji10) : Int)) = True := oT; have q150 : ((ji10) < (l0.length : Int)) = True := oT; obtain ⟨ad150, e150, hx150_0, hx150_1⟩ := at_T71 HR0.out (ji10) oa oa; obtain rfl : ad146 = ad150 := (by injection e150); have hn150_0 : ad146.block ≠ gb147 := cn_ hx150_0 GW147; have hn150_1 : ad146.block ≠ gb147 := cn_ hx150_0 GW147; replace hx150_0 := cB HB hx150_0; replace hx150_1 := cB HB hx150_1; replace hx150_0 := cf_ 0 (.string ((rd_T71 l0 x7_1).f0)) hn150_0 hx150_0; replace hx150_1 := cf_ 0 (.string ((rd_T71 l0 x7_1).f0)) hn150_0 hx150_1; replace hx150_0 := cf_ 1 (.string ((rd_T71 l0 x7_1).f1)) hn150_1 hx150_0; replace hx150_1 := cf_ 1 (.string ((rd_T71 l0 x7_1).f1)) hn150_1 hx150_1; (try have hy150_0 := fun (n_ : Nat) => (show ((((w16.drewN n_).setCell ⟨gb147, 0, none⟩ (.string ((rd_T71 l0 x7_1).f0))).setCell ⟨gb147, 1, none⟩ (.string ((rd_T71 l0 x7_1).f1)))).cell? _ = some _ from hx150_0)); (try have hy150_1 := fun (n_ : Nat) => (show ((((w16.drewN n_).setCell ⟨gb147, 0, none⟩ (.string ((rd_T71 l0 x7_1).f0))).setCell ⟨gb147, 1, none⟩ (.string ((rd_T71 l0 x7_1).f1)))).cell? _ = some _ from hx150_1)); clear hn150_0; clear hn150_1)))
            go_ret
            exact ⟨by first | rfl | (simp [errW_none, errW_some] <;> rfl) | (simp only [← hji10]; first | rfl | (simp [errW_none, errW_some] <;> rfl)) | (simp [*, errW_none, errW_some] <;> rfl), oB⟩
          ·cases H
         ·cases H
        ·have H' := Aside0.mk H
         clear H
         have p146 : (0 ≤ (x7_1 : Int)) = True := oT
         have q146 : (x7_1 < (l0.length : Int)) = True := oT
         obtain ⟨ad146, e146, hx146_0, hx146_1⟩ := at_T71 HR0.out x7_1 oa oa
         cases e146
         replace hx146_0 := cB HB hx146_0
         replace hx146_1 := cB HB hx146_1
         go_wp2_with (first | ((with_reducible refine gate_dst (N := 4) rfl ?_); (try (refine gate_guard (by rfl) ?_; dsimp only)); refine bx_ 4 #[.string (⟨#[]⟩ : ByteArray), .string (⟨#[]⟩ : ByteArray)] 71 ?_; intro gb147 hg w18 hbox hb; have BK147 := Aside0.mk (hbox); have GW147 := gs_ hg; replace HB := Aside0.mk (below_step oB hb); clear hb hbox hg; obtain ⟨⟨_, _⟩, _, _⟩ := z2 BK147) | (go_at_call 52; (with_reducible refine (impl_NameOk.calls k1 ((rd_T71 l0 x7_1).f0) true _ A5.out).mono ?_); rintro e w' ⟨rfl, ⟨nd, rfl⟩⟩) | (go_at_call 47; (with_reducible refine (impl_from.calls (((rd_T71 l0 x7_1).f1).size : Int) 1 16 true _ A7.out).mono ?_); rintro e w' ⟨rfl, ⟨nd, rfl⟩⟩))
         repeat (go_quiet (first | (go_at_call 52; (with_reducible refine (impl_NameOk.calls k1 ((rd_T71 l0 x7_1).f0) true _ A5.out).mono ?_); rintro e w' ⟨rfl, ⟨nd, rfl⟩⟩; exact oQ) | (go_at_call 47; (with_reducible refine (impl_from.calls (((rd_T71 l0 x7_1).f1).size : Int) 1 16 true _ A7.out).mono ?_); rintro e w' ⟨rfl, ⟨nd, rfl⟩⟩; exact oQ)); try go_wp2_with (first | ((with_reducible refine gate_dst (N := 4) rfl ?_); (try (refine gate_guard (by rfl) ?_; dsimp only)); refine bx_ 4 #[.string (⟨#[]⟩ : ByteArray), .string (⟨#[]⟩ : ByteArray)] 71 ?_; intro gb147 hg w18 hbox hb; have BK147 := Aside0.mk (hbox); have GW147 := gs_ hg; replace HB := Aside0.mk (below_step oB hb); clear hb hbox hg; obtain ⟨⟨_, _⟩, _, _⟩ := z2 BK147) | (go_at_call 52; (with_reducible refine (impl_NameOk.calls k1 ((rd_T71 l0 x7_1).f0) true _ A5.out).mono ?_); rintro e w' ⟨rfl, ⟨nd, rfl⟩⟩) | (go_at_call 47; (with_reducible refine (impl_from.calls (((rd_T71 l0 x7_1).f1).size : Int) 1 16 true _ A7.out).mono ?_); rintro e w' ⟨rfl, ⟨nd, rfl⟩⟩)))
         go_roundg k1
         case measure => have := HK1.out; omega
         case rel => exact ⟨(wrap64 (x7_1 + 1)), oS, H', ⟨by have := HK1.out; omega⟩, ⟨oB⟩⟩
       ·obtain rfl := Option.some.inj H
        have p146 : (0 ≤ (x7_1 : Int)) = True := oT
        have q146 : (x7_1 < (l0.length : Int)) = True := oT
        obtain ⟨ad146, e146, hx146_0, hx146_1⟩ := at_T71 HR0.out x7_1 oa oa
        cases e146
        replace hx146_0 := cB HB hx146_0
        replace hx146_1 := cB HB hx146_1
        go_wp2_with (first | ((with_reducible refine gate_dst (N := 4) rfl ?_); (try (refine gate_guard (by rfl) ?_; dsimp only)); refine bx_ 4 #[.string (⟨#[]⟩ : ByteArray), .string (⟨#[]⟩ : ByteArray)] 71 ?_; intro gb147 hg w20 hbox hb; have BK147 := Aside0.mk (hbox); have GW147 := gs_ hg; replace HB := Aside0.mk (below_step oB hb); clear hb hbox hg; obtain ⟨⟨_, _⟩, _, _⟩ := z2 BK147) | (go_at_call 52; (with_reducible refine (impl_NameOk.calls k1 ((rd_T71 l0 x7_1).f0) true _ A5.out).mono ?_); rintro e w' ⟨rfl, ⟨nd, rfl⟩⟩) | (go_at_call 47; (with_reducible refine (impl_from.calls (((rd_T71 l0 x7_1).f1).size : Int) 1 16 false _ A7.out).mono ?_); rintro e w' ⟨rfl, ⟨nd, rfl⟩⟩))
        repeat (go_quiet (first | (go_at_call 52; (with_reducible refine (impl_NameOk.calls k1 ((rd_T71 l0 x7_1).f0) true _ A5.out).mono ?_); rintro e w' ⟨rfl, ⟨nd, rfl⟩⟩; exact oQ) | (go_at_call 47; (with_reducible refine (impl_from.calls (((rd_T71 l0 x7_1).f1).size : Int) 1 16 false _ A7.out).mono ?_); rintro e w' ⟨rfl, ⟨nd, rfl⟩⟩; exact oQ)); try go_wp2_with (first | ((with_reducible refine gate_dst (N := 4) rfl ?_); (try (refine gate_guard (by rfl) ?_; dsimp only)); refine bx_ 4 #[.string (⟨#[]⟩ : ByteArray), .string (⟨#[]⟩ : ByteArray)] 71 ?_; intro gb147 hg w20 hbox hb; have BK147 := Aside0.mk (hbox); have GW147 := gs_ hg; replace HB := Aside0.mk (below_step oB hb); clear hb hbox hg; obtain ⟨⟨_, _⟩, _, _⟩ := z2 BK147) | (go_at_call 52; (with_reducible refine (impl_NameOk.calls k1 ((rd_T71 l0 x7_1).f0) true _ A5.out).mono ?_); rintro e w' ⟨rfl, ⟨nd, rfl⟩⟩) | (go_at_call 47; (with_reducible refine (impl_from.calls (((rd_T71 l0 x7_1).f1).size : Int) 1 16 false _ A7.out).mono ?_); rintro e w' ⟨rfl, ⟨nd, rfl⟩⟩)))
        go_ret
        exact ⟨oE, oB⟩
      ·obtain rfl := Option.some.inj H
       have p146 : (0 ≤ (x7_1 : Int)) = True := oT
       have q146 : (x7_1 < (l0.length : Int)) = True := oT
       obtain ⟨ad146, e146, hx146_0, hx146_1⟩ := at_T71 HR0.out x7_1 oa oa
       cases e146
       replace hx146_0 := cB HB hx146_0
       replace hx146_1 := cB HB hx146_1
       go_wp2_with (first | ((with_reducible refine gate_dst (N := 4) rfl ?_); (try (refine gate_guard (by rfl) ?_; dsimp only)); refine bx_ 4 #[.string (⟨#[]⟩ : ByteArray), .string (⟨#[]⟩ : ByteArray)] 71 ?_; intro gb147 hg w22 hbox hb; have BK147 := Aside0.mk (hbox); have GW147 := gs_ hg; replace HB := Aside0.mk (below_step oB hb); clear hb hbox hg; obtain ⟨⟨_, _⟩, _, _⟩ := z2 BK147) | (go_at_call 52; (with_reducible refine (impl_NameOk.calls k1 ((rd_T71 l0 x7_1).f0) false _ A5.out).mono ?_); rintro e w' ⟨rfl, ⟨nd, rfl⟩⟩))
       repeat (go_quiet (first | (go_at_call 52; (with_reducible refine (impl_NameOk.calls k1 ((rd_T71 l0 x7_1).f0) false _ A5.out).mono ?_); rintro e w' ⟨rfl, ⟨nd, rfl⟩⟩; exact oQ)); try go_wp2_with (first | ((with_reducible refine gate_dst (N := 4) rfl ?_); (try (refine gate_guard (by rfl) ?_; dsimp only)); refine bx_ 4 #[.string (⟨#[]⟩ : ByteArray), .string (⟨#[]⟩ : ByteArray)] 71 ?_; intro gb147 hg w22 hbox hb; have BK147 := Aside0.mk (hbox); have GW147 := gs_ hg; replace HB := Aside0.mk (below_step oB hb); clear hb hbox hg; obtain ⟨⟨_, _⟩, _, _⟩ := z2 BK147) | (go_at_call 52; (with_reducible refine (impl_NameOk.calls k1 ((rd_T71 l0 x7_1).f0) false _ A5.out).mono ?_); rintro e w' ⟨rfl, ⟨nd, rfl⟩⟩)))
       go_ret
       exact ⟨oE, oB⟩
     ·cases H
    ·cases H
   ·obtain rfl := Option.some.inj H
    go_wp2
    repeat (go_quiet (fail); try go_wp2)
    go_ret
    exact ⟨oE, oB⟩

/-! ### impl_namesOk: function 37 -/
theorem namesOk1.calls (k : Nat) (s : ByteArray) (t : Bool) (w : World) (h : impl_NameOk.f k s = some t) :
  Calls Tryz.prog 65 #[.string s] w fun e w' => e = .returned (.bool (!t)) ∧ Below w.heap.size w w' := by
 have hc := impl_NameOk.calls k s t w h
 clear h
 go_enter Tryz.func65, Tryz.ntmps65
 go_wp2_with (go_at_call 52; refine hc.mono ?_; rintro e w1 ⟨rfl, m, rfl⟩)
 go_ret
 exact ⟨rfl, pw_below_drewN (Below.refl _ _) m⟩
/-- The first of the names that is not right, counted from i on. -/
def badR (k : Nat) : List ByteArray → Nat → Option Int
 | [], _ => some (-1)
 | x :: l, i => (impl_NameOk.f k x).bind fun t => if t = true then badR k l (i + 1) else some (i : Int)
set_option maxHeartbeats 1000000 in
set_option maxRecDepth 100000 in
theorem namesIdx.calls (k : Nat) (A0 : Option Addr) (c0 : Nat) (l : List ByteArray) (r : Int) (w : World) (hr : Kd.C Kd.string w A0 l.length l) (hl : l.length ≤ 9223372036854775807) (h : badR k l 0 = some r) :
  Calls Tryz.prog 91 #[.slice A0 l.length c0, .func (.func 65) #[] #[]] w fun e w' => e = .returned (.int .i64 r) ∧ Below w.heap.size w w' := by
 have H0 := Aside0.mk h
 clear h
 go_enter Tryz.func91, Tryz.ntmps91
 go_wp2
 go_loopg [5, 8] l.length (fun gg _ s8 wr => ∃ kk : Nat, kk ≤ l.length ∧ l.length - kk ≤ gg ∧ s8 = .int .i64 kk ∧ Aside0 (Below w.heap.size w wr) ∧ Aside0 (badR k (l.drop kk) kk = some r))
 case atStart => exact ⟨0, Nat.zero_le _, by omega, rfl, ⟨Below.refl _ w⟩, H0⟩
 case round =>
  clear H0
  obtain ⟨kk, hkk, hg, rfl, BW, HA⟩ := hrel
  by_cases hlt : kk < l.length
  ·have hltz : (kk : Int) < (l.length : Int) := by omega
   have h1 := HA.out
   rw [List.drop_eq_getElem_cons hlt, badR] at h1
   replace h1 := bA h1
   obtain ⟨t, A1, h1⟩ := h1
   obtain ⟨ad, c, e0, hcl, hK, hcell⟩ := Kd.C_get (Kd.C_below hr BW.out) ⟨#[]⟩ (kk : Int) (by omega) hltz
   cases e0
   have hx : l.getD (kk : Int).toNat ⟨#[]⟩ = l[kk] := by rw [Int.toNat_natCast, List.getD_eq_getElem?_getD, List.getElem?_eq_getElem hlt]; rfl
   rw [hx] at hK
   obtain rfl : c = [.string l[kk]] := hK
   have h0 : wr.cell? (ad.add kk) = some (.string l[kk]) := by have := hcell 0 _ rfl; simpa [Kd.string, Kd.scalar] using this
   clear hcell hcl hx
   cases t with
   | true =>
    have H' := Aside0.mk h1
    clear h1
    go_wp2_with (go_at_call 65; refine (namesOk1.calls k l[kk] true _ A1.out).mono ?_; rintro e w1 ⟨rfl, hb⟩)
    go_roundg (l.length - (kk + 1))
    case measure => omega
    case rel => exact ⟨kk + 1, by omega, by omega, by go_num, ⟨below_then BW.out BW.out.size hb⟩, H'⟩
   | false =>
    obtain rfl := Option.some.inj h1
    go_wp2_with (go_at_call 65; refine (namesOk1.calls k l[kk] false _ A1.out).mono ?_; rintro e w1 ⟨rfl, hb⟩)
    go_ret
    exact ⟨rfl, below_then BW.out BW.out.size hb⟩
  ·have hltz : ¬ (kk : Int) < (l.length : Int) := by omega
   obtain rfl : kk = l.length := by omega
   have h1 := HA.out
   rw [List.drop_length, badR] at h1
   obtain rfl := Option.some.inj h1
   go_wp2
   go_ret
   exact ⟨rfl, BW.out⟩
theorem namesAny.calls (k : Nat) (A0 : Option Addr) (c0 : Nat) (l : List ByteArray) (r : Int) (w : World) (hr : Kd.C Kd.string w A0 l.length l) (hl : l.length ≤ 9223372036854775807) (h : badR k l 0 = some r) :
  Calls Tryz.prog 64 #[.slice A0 l.length c0, .func (.func 65) #[] #[]] w fun e w' => e = .returned (.bool (decide (0 ≤ r))) ∧ Below w.heap.size w w' := by
 have hc := namesIdx.calls k A0 c0 l r w hr hl h
 clear hr h
 go_enter Tryz.func64, Tryz.ntmps64
 go_wp2_with (go_at_call 91; refine hc.mono ?_; rintro e w1 ⟨rfl, hb⟩)
 go_ret
 exact ⟨rfl, hb⟩
def impl_namesOk.f (k : Nat) (l : List ByteArray) : Option Bool := if l.length ≤ 30 then (badR k l 0).bind fun r => some (!decide (0 ≤ r)) else some false
theorem impl_namesOk.calls (k : Nat) (A0 : Option Addr) (c0 : Nat) (l : List ByteArray) (r : Bool) (w : World) (hr : Kd.C Kd.string w A0 l.length l) (hc0 : l.length ≤ c0) (h : impl_namesOk.f k l = some r) :
  Calls Tryz.prog 37 #[.slice A0 l.length c0] w fun e w' => e = .returned (.bool r) ∧ Below w.heap.size w w' := by
 unfold impl_namesOk.f at h
 split at h
 case isTrue hl =>
  replace h := bA h
  obtain ⟨i, A1, h⟩ := h
  obtain rfl := Option.some.inj h
  have hc := namesAny.calls k A0 c0 l i w hr (by omega) A1.out
  have hlz : decide ((l.length : Int) ≤ 30) = true := decide_eq_true (by omega)
  clear hr h hl hc0
  go_enter Tryz.func37, Tryz.ntmps37
  go_wp2_with (go_at_call 64; refine hc.mono ?_; rintro e w1 ⟨rfl, hb⟩)
  go_ret
  exact ⟨rfl, hb⟩
 case isFalse hl =>
  obtain rfl := Option.some.inj h
  have hlz : decide ((l.length : Int) ≤ 30) = false := decide_eq_false (by omega)
  clear hr h hl hc0
  go_enter Tryz.func37, Tryz.ntmps37
  go_wp2
  go_ret
  exact ⟨rfl, Below.refl _ _⟩
/-! ### impl_copyInode: function 71 -/
def impl_copyInode.f (a0_0 : Int) (a0_1 : Int) (a0_2 : Int) (l0_3 : List Int) (l0_4 : List (S65)) (l0_5 : List (S71)) : Option (Int × Int × Int × List Int × (List (S65)) × (List (S71))) := (slices_Clone_byte_byte.f l0_3).bind fun t121 => ((slices_Clone_Ent.f l0_4).bind fun t124 => ((slices_Clone_Attr.f l0_5).bind fun t127 => (some (a0_0, a0_1, a0_2, t121, t124, t127))))
set_option maxHeartbeats 8000000 in
set_option maxRecDepth 100000 in
theorem impl_copyInode.calls (a0_0 : Int) (a0_1 : Int) (a0_2 : Int) (A0_3 : Option Addr) (c0_3 : Nat) (l0_3 : List Int) (A0_4 : Option Addr) (c0_4 : Nat) (l0_4 : List (S65)) (A0_5 : Option Addr) (c0_5 : Nat) (l0_5 : List (S71)) (r1 : Int) (r2 : Int) (r3 : Int) (r4 : List Int) (r5 : List (S65)) (r6 : List (S71)) (w : World) (hr0_3 : Kd.C (Kd.int .u8) w A0_3 l0_3.length l0_3) (hc0_3 : l0_3.length ≤ c0_3) (hr0_4 : Kd.C k65 w A0_4 l0_4.length l0_4) (hc0_4 : l0_4.length ≤ c0_4) (hr0_5 : Kd.C k71 w A0_5 l0_5.length l0_5) (hc0_5 : l0_5.length ≤ c0_5) (h : impl_copyInode.f a0_0 a0_1 a0_2 l0_3 l0_4 l0_5 = some (r1, r2, r3, r4, r5, r6)) :
  Calls Tryz.prog 71 #[.agg #[.int .i64 a0_0, .int .i64 a0_1, .int .i64 a0_2, .slice A0_3 l0_3.length c0_3, .slice A0_4 l0_4.length c0_4, .slice A0_5 l0_5.length c0_5]] w fun e w' => ∃ v3_ v4_ v5_ : Value, e = .returned (.agg #[.int .i64 r1, .int .i64 r2, .int .i64 r3, v3_, v4_, v5_]) ∧ Kd.R (Kd.int .u8) 5 w' w.heap.size (fun _ => True) v3_ r4 ∧ Kd.R k65 65 w' w.heap.size (fun _ => True) v4_ r5 ∧ Kd.R k71 71 w' w.heap.size (fun _ => True) v5_ r6 ∧ Below w.heap.size w w' := by
 have hu51 := Tryz.underlying51
 have HR0_3 := Aside0.mk hr0_3
 have HC0_3 := Aside0.mk hc0_3
 clear hr0_3 hc0_3
 have HR0_4 := Aside0.mk hr0_4
 have HC0_4 := Aside0.mk hc0_4
 clear hr0_4 hc0_4
 have HR0_5 := Aside0.mk hr0_5
 have HC0_5 := Aside0.mk hc0_5
 clear hr0_5 hc0_5
 have HB := Aside0.mk (Below.refl w.heap.size w)
 unfold impl_copyInode.f at h
 have H := h
 clear h
 replace H := bA H
 obtain ⟨t121, A2, H⟩ := H
 try dsimp only at H
 replace H := bA H
 obtain ⟨t124, A3, H⟩ := H
 try dsimp only at H
 replace H := bA H
 obtain ⟨t127, A4, H⟩ := H
 try dsimp only at H
 simp only [Option.some.injEq, Prod.mk.injEq] at H
 obtain ⟨rfl, rfl, rfl, rfl, rfl, rfl⟩ := H
 go_enter Tryz.func71, Tryz.ntmps71
 go_wp2_with (first | ((with_reducible refine gate_dst (N := 1) rfl ?_); refine bx_ 1 #[.int .i64 a0_0, .int .i64 a0_1, .int .i64 a0_2, .slice A0_3 l0_3.length c0_3, .slice A0_4 l0_4.length c0_4, .slice A0_5 l0_5.length c0_5] 51 ?_; intro gb119 hg w5 hbox hb; have BK119 := Aside0.mk (hbox); have GW119 := gs_ hg; replace HB := Aside0.mk (below_step oB hb); clear hb hbox hg) | ((with_reducible refine gate_dst (N := 2) rfl ?_); refine bx_ 2 #[.int .i64 0, .int .i64 0, .int .i64 0, .slice none 0 0, .slice none 0 0, .slice none 0 0] 51 ?_; intro gb120 hg w6 hbox hb; have BK120 := Aside0.mk (hbox); have GW120 := gs_ hg; have NB119_120 := nl_ hg BK119; have NB120_119 := nr_ hg BK119; replace BK119 := kb_ BK119 hb; replace HB := Aside0.mk (below_step oB hb); clear hb hbox hg; have hnb7 := NB119_120.out; have hnc7 := NB120_119.out; obtain ⟨⟨_, _, _, _, _, _⟩, _, _, _, _, _, _⟩ := z6 BK119) | ((with_reducible refine gate_callee (f := 51) rfl ?_); refine gl_ 5 Tryz.func51 (slices_Clone_byte_byte.calls _ _ l0_3 t121 _ (kC HR0_3) HC0_3.out A2.out) ?_; rintro e w9 ⟨v122, rfl, ho0, hb⟩; refine ⟨_, rfl, ?_⟩; have HO123 := Aside0.mk (Kd.R_lower ho0 (below_size oB)); replace BK119 := kb_ BK119 hb; replace BK120 := kb_ BK120 hb; replace HB := Aside0.mk (below_step oB hb); obtain ⟨Ao10, co10, eo10⟩ := Kd.R_slice HO123.out; subst eo10; obtain ⟨⟨_, _, _, _, _, _⟩, _, _, _, _, _, _⟩ := z6 BK119) | ((with_reducible refine gate_callee (f := 82) rfl ?_); refine gl_ 9 Tryz.func82 (slices_Clone_Ent.calls _ _ l0_4 t124 _ ?side1 HC0_4.out A3.out) ?_; (case side1 => exact Kd.C_below HR0_4.out oB); rintro e w12 ⟨v125, rfl, ho0, hb⟩; refine ⟨_, rfl, ?_⟩; have HO126 := Aside0.mk (Kd.R_lower ho0 (below_size oB)); replace HO123 := beR1 HO123 BK119 hb; replace BK119 := kp_ #[.int .i64 a0_0, .int .i64 a0_1, .int .i64 a0_2, .slice Ao10 t121.length co10, .slice A0_4 l0_4.length c0_4, .slice A0_5 l0_5.length c0_5] BK119 hb; replace BK120 := kb_ BK120 hb; replace HB := Aside0.mk (below_step oB hb); (try clear hk); obtain ⟨Ao13, co13, eo13⟩ := Kd.R_slice HO126.out; subst eo13; obtain ⟨⟨_, _, _, _, _, _⟩, _, _, _, _, _, _⟩ := z6 BK119) | ((with_reducible refine gate_callee (f := 95) rfl ?_); refine gl_ 13 Tryz.func95 (slices_Clone_Attr.calls _ _ l0_5 t127 _ ?side1 HC0_5.out A4.out) ?_; (case side1 => exact Kd.C_below HR0_5.out oB); rintro e w15 ⟨v128, rfl, ho0, hb⟩; refine ⟨_, rfl, ?_⟩; have HO129 := Aside0.mk (Kd.R_lower ho0 (below_size oB)); replace HO123 := beR1 HO123 BK119 hb; replace HO126 := beR1 HO126 BK119 hb; replace BK119 := kp_ #[.int .i64 a0_0, .int .i64 a0_1, .int .i64 a0_2, .slice Ao10 t121.length co10, .slice Ao13 t124.length co13, .slice A0_5 l0_5.length c0_5] BK119 hb; replace BK120 := kb_ BK120 hb; replace HB := Aside0.mk (below_step oB hb); (try clear hk); obtain ⟨Ao16, co16, eo16⟩ := Kd.R_slice HO129.out; subst eo16; obtain ⟨⟨_, _, _, _, _, _⟩, _, _, _, _, _, _⟩ := z6 BK119; obtain ⟨⟨_, _, _, _, _, _⟩, _, _, _, _, _, _⟩ := z6 BK120))
 refine bodyPost_ret (results_cell_row rfl _ _ gb120 51 #[.int .i64 a0_0, .int .i64 a0_1, .int .i64 a0_2, .slice Ao10 t121.length co10, .slice Ao13 t124.length co13, .slice Ao16 t127.length co16] (0, 0) _ rfl (oP BK120) Tryz.underlying51 rfl (by kernel_rfl)) rfl ?_
 exact ⟨_, _, _, oE, by (with_reducible repeat (first | apply Kd.R_alloc | apply Kd.R_drewN | apply Kd.R_drew)); exact Kd.R_mono (Kd.R_far (p := ⟨gb120, 5, none⟩) (Kd.R_far (p := ⟨gb120, 4, none⟩) (Kd.R_far (p := ⟨gb120, 3, none⟩) (Kd.R_far (p := ⟨gb120, 2, none⟩) (Kd.R_far (p := ⟨gb120, 1, none⟩) (Kd.R_far (p := ⟨gb120, 0, none⟩) (Kd.R_far (p := ⟨gb119, 5, none⟩) (Kd.R_types (Kd.R_types HO123.out BK119.out (by decide)) BK120.out (by decide)) (fun _ hk => hk.1.2) (.slice Ao16 t127.length co16)) (fun _ hk => hk.2) (.int .i64 a0_0)) (fun _ hk => hk.2) (.int .i64 a0_1)) (fun _ hk => hk.2) (.int .i64 a0_2)) (fun _ hk => hk.2) (.slice Ao10 t121.length co10)) (fun _ hk => hk.2) (.slice Ao13 t124.length co13)) (fun _ hk => hk.2) (.slice Ao16 t127.length co16)) (fun _ hk => trivial), by (with_reducible repeat (first | apply Kd.R_alloc | apply Kd.R_drewN | apply Kd.R_drew)); exact Kd.R_mono (Kd.R_far (p := ⟨gb120, 5, none⟩) (Kd.R_far (p := ⟨gb120, 4, none⟩) (Kd.R_far (p := ⟨gb120, 3, none⟩) (Kd.R_far (p := ⟨gb120, 2, none⟩) (Kd.R_far (p := ⟨gb120, 1, none⟩) (Kd.R_far (p := ⟨gb120, 0, none⟩) (Kd.R_far (p := ⟨gb119, 5, none⟩) (Kd.R_types (Kd.R_types HO126.out BK119.out (by decide)) BK120.out (by decide)) (fun _ hk => hk.1.2) (.slice Ao16 t127.length co16)) (fun _ hk => hk.2) (.int .i64 a0_0)) (fun _ hk => hk.2) (.int .i64 a0_1)) (fun _ hk => hk.2) (.int .i64 a0_2)) (fun _ hk => hk.2) (.slice Ao10 t121.length co10)) (fun _ hk => hk.2) (.slice Ao13 t124.length co13)) (fun _ hk => hk.2) (.slice Ao16 t127.length co16)) (fun _ hk => trivial), by (with_reducible repeat (first | apply Kd.R_alloc | apply Kd.R_drewN | apply Kd.R_drew)); exact Kd.R_mono (Kd.R_far (p := ⟨gb120, 5, none⟩) (Kd.R_far (p := ⟨gb120, 4, none⟩) (Kd.R_far (p := ⟨gb120, 3, none⟩) (Kd.R_far (p := ⟨gb120, 2, none⟩) (Kd.R_far (p := ⟨gb120, 1, none⟩) (Kd.R_far (p := ⟨gb120, 0, none⟩) (Kd.R_far (p := ⟨gb119, 5, none⟩) (Kd.R_types (Kd.R_types HO129.out BK119.out (by decide)) BK120.out (by decide)) (fun _ hk => hk.1.2) (.slice Ao16 t127.length co16)) (fun _ hk => hk.2) (.int .i64 a0_0)) (fun _ hk => hk.2) (.int .i64 a0_1)) (fun _ hk => hk.2) (.int .i64 a0_2)) (fun _ hk => hk.2) (.slice Ao10 t121.length co10)) (fun _ hk => hk.2) (.slice Ao13 t124.length co13)) (fun _ hk => hk.2) (.slice Ao16 t127.length co16)) (fun _ hk => trivial), oB⟩

end Go.Proofs.YtkcfmbggdkkfeaaGreatDoor.P
