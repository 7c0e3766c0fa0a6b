-- By this session's own program (wip/myprint.py) out of the translation; Lean checks it.
import Derived.Test.YtolkhimbfegkkaaGreatPx0
import Derived.Test.YtolkhimbfegkkaaGreatPx4
namespace Go.Proofs.YtolkhimbfegkkaaGreat.P
open Go.RowKit Go.Proofs.YtolkhimbfegkkaaGreatW.PrintWords Go.Proofs.YtolkhimbfegkkaaGreatW.PrintLast Go.Proofs.YtolkhimbfegkkaaGreatW.PrintMore
attribute [local go_sem] max2_int min2_int max_two min_two max_three min_three max_four min_four   -- for this text's walks alone
set_option linter.unusedVariables false
set_option linter.unusedSimpArgs false

/-! ### impl_from: function 53 -/
def impl_from.f (a0 : Int) (a1 : Int) (a2 : Int) : Option (Bool) := if a0 ≥ a1 then (some (decide (a0 ≤ a2))) else (some false)
set_option maxHeartbeats 8000000 in
set_option maxRecDepth 100000 in
theorem impl_from.calls (a0 : Int) (a1 : Int) (a2 : Int) (r : Bool) (w : World) (h : impl_from.f a0 a1 a2 = some r) :
  Calls Tryz.prog 53 #[.int .i64 a0, .int .i64 a1, .int .i64 a2] w fun e w' => e = .returned (.bool r) ∧ Drawn0 w w' := by
 unfold impl_from.f at h
 have H := h
 clear h
 replace H := itH H
 rcases H with ⟨c4b0, H⟩ | ⟨c4b0, H⟩
 ·obtain rfl := Option.some.inj H
  go_enter Tryz.func53, Tryz.ntmps53
  go_wp2
  go_ret
  exact ⟨oS, oD⟩
 ·obtain rfl := Option.some.inj H
  go_enter Tryz.func53, Tryz.ntmps53
  go_wp2
  go_ret
  exact ⟨oS, oD⟩

/-! ### slices_Sort_int_int: function 56 -/
def sortI (l : List Int) : List Int := l.mergeSort fun x y => decide (x ≤ y)
theorem sortI_length (l : List Int) : (sortI l).length = l.length := List.length_mergeSort ..
/-- slices.Sort of a row of the call's own: it is in order behind it. -/
theorem sortOwn.calls (A : Option Addr) (c b0 : Nat) (ok : Nat → Prop) (l : List Int) (w : World) (ho : Kd.R (Kd.int .i64) 3 w b0 ok (.slice A l.length c) l) (hl : l.length < 4611686018427387904) :
  Calls Tryz.prog 56 #[.slice A l.length c] w fun e w' => e = .returned (.tuple #[]) ∧ Kd.R (Kd.int .i64) 3 w' b0 ok (.slice A l.length c) (sortI l) ∧ w.grownBy w' (Value.slice A l.length c).ownBlock := by
 have ho' := ho
 obtain ⟨hok, inner, ⟨hil, hown⟩, hrep⟩ := ho
 rcases hown with ⟨he, h0⟩ | ⟨g, cap, cur, he, hbg, hh, hnc, hcm, hcs, hin⟩
 ·obtain rfl := List.eq_nil_of_length_eq_zero h0
  refine (Any.slices_Sort_int_none Tryz.lays189 A c w).mono fun e w' ⟨he, hw⟩ => ⟨he, ?_, ?_⟩
  ·subst hw; rw [show sortI [] = [] from List.eq_nil_of_length_eq_zero (by rw [sortI_length]; rfl)]; exact ho'
  ·subst hw; exact ⟨rfl, rfl, rfl, Nat.le_refl _, fun _ _ _ => rfl⟩
 ·injection he with ha _ hc
  subst ha; subst hc
  rw [show (Kd.int .i64).sz = 1 from rfl] at hil hcs hin hrep
  have hen := Kd.reps_encs (enc := Value.int .i64) hrep
  rw [hen, Nat.mul_one] at hin
  have hgw : g < w.heap.size := blk_lt hh
  refine (Any.slices_Sort_int Tryz.lays189 g 0 c l w (holds_of_blockI hh hin) hgw hl).mono fun e w' ⟨he, n, os, hw⟩ => ?_
  subst hw
  refine ⟨he, ⟨fun k hk => hok k hk, (sortI l).map (Value.int .i64), ?_, ?_⟩, grownBy_sortedI _⟩
  ·rw [sortI_length]
   exact ownsRow_sortedI (ss := l) (sortI_length l) hbg hh hnc hcm hcs
  ·exact Kd.reps_scalar (enc := Value.int .i64) (sortI l)
/-! ### laws_toEnt: function 81 -/
def laws_toEnt.f (a0_0 : ByteArray) (a0_1 : Int) : Option (ByteArray × Int) := some (a0_0, a0_1)
set_option maxHeartbeats 8000000 in
set_option maxRecDepth 100000 in
theorem laws_toEnt.calls (a0_0 : ByteArray) (a0_1 : Int) (r1 : ByteArray) (r2 : Int) (w : World) (h : laws_toEnt.f a0_0 a0_1 = some (r1, r2)) :
  Calls Tryz.prog 81 #[.agg #[.string a0_0, .int .i64 a0_1]] w fun e w' => e = .returned (.agg #[.string r1, .int .i64 r2]) ∧ Below w.heap.size w w' := by
 have hu105 := Tryz.underlying105
 have hu63 := Tryz.underlying63
 have HB := Aside0.mk (Below.refl w.heap.size w)
 unfold laws_toEnt.f at h
 have H := h
 clear h
 simp only [Option.some.injEq, Prod.mk.injEq] at H
 obtain ⟨rfl, rfl⟩ := H
 go_enter Tryz.func81, Tryz.ntmps81
 go_wp2_with (first | ((with_reducible refine gate_dst (N := 1) rfl ?_); refine bx_ 1 #[.string a0_0, .int .i64 a0_1] 105 ?_; intro gb270 hg w2 hbox hb; have BK270 := Aside0.mk (hbox); have GW270 := gs_ hg; replace HB := Aside0.mk (below_step oB hb); clear hb hbox hg) | ((with_reducible refine gate_dst (N := 2) rfl ?_); refine bx_ 2 #[.string (⟨#[]⟩ : ByteArray), .int .i64 0] 63 ?_; intro gb271 hg w3 hbox hb; have BK271 := Aside0.mk (hbox); have GW271 := gs_ hg; have NB270_271 := nl_ hg BK270; have NB271_270 := nr_ hg BK270; replace BK270 := kb_ BK270 hb; replace HB := Aside0.mk (below_step oB hb); clear hb hbox hg) | ((with_reducible refine gate_dst (N := 3) rfl ?_); refine bx_ 3 #[.string (⟨#[]⟩ : ByteArray), .int .i64 0] 63 ?_; intro gb272 hg w4 hbox hb; have BK272 := Aside0.mk (hbox); have GW272 := gs_ hg; have NB270_272 := nl_ hg BK270; have NB272_270 := nr_ hg BK270; have NB271_272 := nl_ hg BK271; have NB272_271 := nr_ hg BK271; replace BK270 := kb_ BK270 hb; replace BK271 := kb_ BK271 hb; replace HB := Aside0.mk (below_step oB hb); clear hb hbox hg; have hnb5 := NB270_271.out; have hnc5 := NB271_270.out; have hnb6 := NB270_272.out; have hnc6 := NB272_270.out; obtain ⟨⟨_, _⟩, _, _⟩ := z2 BK270; have hnb8 := NB272_271.out; have hnc8 := NB271_272.out; obtain ⟨⟨_, _⟩, _, _⟩ := z2 BK272; obtain ⟨⟨_, _⟩, _, _⟩ := z2 BK271))
 refine bodyPost_ret (results_cell_row rfl _ _ gb271 63 #[.string a0_0, .int .i64 a0_1] (0, 0) _ rfl (oP BK271) Tryz.underlying63 rfl (by kernel_rfl)) rfl ?_
 exact ⟨oE, oB⟩

/-! ### laws_toAttr: function 82 -/
def laws_toAttr.f (a0_0 : ByteArray) (a0_1 : ByteArray) : Option (ByteArray × ByteArray) := some (a0_0, a0_1)
set_option maxHeartbeats 8000000 in
set_option maxRecDepth 100000 in
theorem laws_toAttr.calls (a0_0 : ByteArray) (a0_1 : ByteArray) (r1 : ByteArray) (r2 : ByteArray) (w : World) (h : laws_toAttr.f a0_0 a0_1 = some (r1, r2)) :
  Calls Tryz.prog 82 #[.agg #[.string a0_0, .string a0_1]] w fun e w' => e = .returned (.agg #[.string r1, .string r2]) ∧ Below w.heap.size w w' := by
 have hu107 := Tryz.underlying107
 have hu87 := Tryz.underlying87
 have HB := Aside0.mk (Below.refl w.heap.size w)
 unfold laws_toAttr.f at h
 have H := h
 clear h
 simp only [Option.some.injEq, Prod.mk.injEq] at H
 obtain ⟨rfl, rfl⟩ := H
 go_enter Tryz.func82, Tryz.ntmps82
 go_wp2_with (first | ((with_reducible refine gate_dst (N := 1) rfl ?_); refine bx_ 1 #[.string a0_0, .string a0_1] 107 ?_; intro gb280 hg w2 hbox hb; have BK280 := Aside0.mk (hbox); have GW280 := gs_ hg; replace HB := Aside0.mk (below_step oB hb); clear hb hbox hg) | ((with_reducible refine gate_dst (N := 2) rfl ?_); refine bx_ 2 #[.string (⟨#[]⟩ : ByteArray), .string (⟨#[]⟩ : ByteArray)] 87 ?_; intro gb281 hg w3 hbox hb; have BK281 := Aside0.mk (hbox); have GW281 := gs_ hg; have NB280_281 := nl_ hg BK280; have NB281_280 := nr_ hg BK280; replace BK280 := kb_ BK280 hb; replace HB := Aside0.mk (below_step oB hb); clear hb hbox hg) | ((with_reducible refine gate_dst (N := 3) rfl ?_); refine bx_ 3 #[.string (⟨#[]⟩ : ByteArray), .string (⟨#[]⟩ : ByteArray)] 87 ?_; intro gb282 hg w4 hbox hb; have BK282 := Aside0.mk (hbox); have GW282 := gs_ hg; have NB280_282 := nl_ hg BK280; have NB282_280 := nr_ hg BK280; have NB281_282 := nl_ hg BK281; have NB282_281 := nr_ hg BK281; replace BK280 := kb_ BK280 hb; replace BK281 := kb_ BK281 hb; replace HB := Aside0.mk (below_step oB hb); clear hb hbox hg; have hnb5 := NB280_281.out; have hnc5 := NB281_280.out; have hnb6 := NB280_282.out; have hnc6 := NB282_280.out; obtain ⟨⟨_, _⟩, _, _⟩ := z2 BK280; have hnb8 := NB282_281.out; have hnc8 := NB281_282.out; obtain ⟨⟨_, _⟩, _, _⟩ := z2 BK282; obtain ⟨⟨_, _⟩, _, _⟩ := z2 BK281))
 refine bodyPost_ret (results_cell_row rfl _ _ gb281 87 #[.string a0_0, .string a0_1] (0, 0) _ rfl (oP BK281) Tryz.underlying87 rfl (by kernel_rfl)) rfl ?_
 exact ⟨oE, oB⟩

-- NOT PRINTED: function 57 (slices_IndexFunc_Inode)

/-! ### laws_eqEntS: function 74 -/
def laws_eqEntS.l0 : Nat → List (S63) → List (S63) → Int → Option (Bool)
 | 0, _, _, _ => none
 | k + 1, x0, x1, x5 => if x5 < (x0.length : Int) then (if 0 ≤ x5 then (if x5 < (x1.length : Int) then ((laws_eqEnt.f ((rd_T63 x0 x5).f0) ((rd_T63 x0 x5).f1) ((rd_T63 x1 x5).f0) ((rd_T63 x1 x5).f1)).bind fun t511 => (if t511 = true then (laws_eqEntS.l0 k x0 x1 (wrap64 (x5 + 1))) else (some false))) else (none)) else (none)) else (some true)
def laws_eqEntS.f (k : Nat) (l0 : List (S63)) (l1 : List (S63)) : Option (Bool) := if (l0.length : Int) = (l1.length : Int) then (laws_eqEntS.l0 k l0 l1 0) else (some false)
def laws_eqEntS.T6 : Bool × List (List Nat × List Nat) := (true, [([], []), ([], []), ([0, 1], [0, 1]), ([2], [2]), ([], []), ([], []), ([4, 5], [4, 5]), ([6], [6]), ([3, 7], [3, 7]), ([8], [8])])
def laws_eqEntS.B6 : List Nat := [0, 0, 3, 7, 0, 0, 48, 112, 255, 511]
theorem laws_eqEntS.tab6 : rtab .any (opsOf Tryz.f74 6) = laws_eqEntS.T6 := by kernel_rfl
theorem laws_eqEntS.bits6 : waitsOk laws_eqEntS.T6.2 laws_eqEntS.B6 = true := by kernel_rfl
set_option maxHeartbeats 8000000 in
set_option maxRecDepth 100000 in
theorem laws_eqEntS.calls (k : Nat) (A0 : Option Addr) (c0 : Nat) (l0 : List (S63)) (A1 : Option Addr) (c1 : Nat) (l1 : List (S63)) (r : Bool) (w : World) (hr0 : Kd.C k63 w A0 l0.length l0) (hc0 : l0.length ≤ c0) (hr1 : Kd.C k63 w A1 l1.length l1) (hc1 : l1.length ≤ c1) (h : laws_eqEntS.f k l0 l1 = some r) :
  Calls Tryz.prog 74 #[.slice A0 l0.length c0, .slice A1 l1.length c1] w fun e w' => e = .returned (.bool r) ∧ Below w.heap.size w w' := by
 have hu63 := Tryz.underlying63
 have HR0 := Aside0.mk hr0
 have HC0 := Aside0.mk hc0
 clear hr0 hc0
 have HR1 := Aside0.mk hr1
 have HC1 := Aside0.mk hc1
 clear hr1 hc1
 have HB := Aside0.mk (Below.refl w.heap.size w)
 unfold laws_eqEntS.f at h
 have H := h
 clear h
 by_cases c3 : (l0.length : Int) = (l1.length : Int)
 ·rw [if_pos c3] at H
  have c3b0 : ((l0.length : Int) == (l1.length : Int)) = true := beq_iff_eq.mpr c3
  have c3b1 : ((l0.length : Int) != (l1.length : Int)) = false := bne_eq_false_iff_eq.mpr c3
  have c3b2 : (l0.length == l1.length) = true := by first | simpa using c3 | (simp at c3 ⊢; omega)
  clear c3
  have H' := Aside0.mk H
  clear H
  go_enter Tryz.func74, Tryz.ntmps74
  go_wp2
  go_loopg [5] k (fun kq v5 w' => ∃ (x5_1 : Int), v5 = .int .i64 x5_1 ∧ Aside0 (laws_eqEntS.l0 kq l0 l1 x5_1 = some r) ∧ Aside0 (kq ≤ k) ∧ Aside0 (Below w.heap.size w w'))
  case atStart => exact ⟨(0), oS, H', ⟨Nat.le_refl _⟩, ⟨oB⟩⟩
  case round =>
   clear H'
   try clear c1
   try clear c3
   obtain ⟨x5_1, rfl, HA, HK1, HB⟩ := hrel
   cases gk with
   | zero => exact absurd HA.out (by simp [laws_eqEntS.l0])
   | succ k1 =>
    have H := HA.out
    clear HA
    simp only [laws_eqEntS.l0] at H
    replace H := itD H
    rcases H with ⟨c4b0, H⟩ | ⟨c4b0, H⟩
    ·replace H := itD H
     rcases H with ⟨c5b0, H⟩ | ⟨c5b0, H⟩
     ·replace H := itD H
      rcases H with ⟨c6b0, H⟩ | ⟨c6b0, H⟩
      ·replace H := bA H
       obtain ⟨t511, A7, H⟩ := H
       try dsimp only at H
       replace H := itB H
       rcases H with ⟨rfl, H⟩ | ⟨rfl, H⟩
       ·have H' := Aside0.mk H
        clear H
        try go_wp2
        replace HB := Aside0.mk (below_drew1 HB.out)
        have p509 : (0 ≤ (x5_1 : Int)) = True := oT
        have q509 : (x5_1 < (l0.length : Int)) = True := oT
        obtain ⟨ad509, e509, hx509_0, hx509_1⟩ := at_T63 HR0.out x5_1 oa oa
        have hw509_1 := hx509_1
        have hw509_0 := hx509_0
        cases e509
        replace hx509_0 := cB HB hx509_0
        replace hx509_1 := cB HB hx509_1
        have p510 : (0 ≤ (x5_1 : Int)) = True := oT
        have q510 : (x5_1 < (l1.length : Int)) = True := oT
        obtain ⟨ad510, e510, hx510_0, hx510_1⟩ := at_T63 HR1.out x5_1 oa oa
        have hw510_1 := hx510_1
        have hw510_0 := hx510_0
        cases e510
        replace hx510_0 := cB HB hx510_0
        replace hx510_1 := cB HB hx510_1
        refine st_ 10 (fun w' => w'.cell? (ad509.add ((x5_1).toNat * 2)) = some (.string ((rd_T63 l0 x5_1).f0)) ∧ w'.cell? ⟨(ad509.add ((x5_1).toNat * 2)).block, (ad509.add ((x5_1).toNat * 2)).off + 1, none⟩ = some (.int .i64 ((rd_T63 l0 x5_1).f1)) ∧ w'.cell? (ad510.add ((x5_1).toNat * 2)) = some (.string ((rd_T63 l1 x5_1).f0)) ∧ w'.cell? ⟨(ad510.add ((x5_1).toNat * 2)).block, (ad510.add ((x5_1).toNat * 2)).off + 1, none⟩ = some (.int .i64 ((rd_T63 l1 x5_1).f1))) laws_eqEntS.tab6 laws_eqEntS.bits6 oH (fun hHeld HT_ HW_ => ?_)
        generalize wr.drew = w9 at HB hx509_0 hx509_1 hx510_0 hx510_1 hHeld ⊢
        refine pu_ 0 17 HT_ ?_
        refine pu_ 1 18 HT_ ?_
        refine pu_ 2 19 HT_ ?_
        refine pu_ 4 21 HT_ ?_
        refine pu_ 5 22 HT_ ?_
        refine pu_ 6 23 HT_ ?_
        refine ta_ 3 20 HT_ HW_ hHeld ?_
        refine ta_ 7 24 HT_ HW_ hHeld ?_
        refine on_ 8 25 HT_ (fun K hK => ?_)
        refine gr_ 25 Tryz.func93 (laws_eqEnt.calls ((rd_T63 l0 x5_1).f0) ((rd_T63 l0 x5_1).f1) ((rd_T63 l1 x5_1).f0) ((rd_T63 l1 x5_1).f1) true _ A7.out) ?_
        rintro e w10 ⟨rfl, hb⟩
        refine ⟨_, rfl, ?_⟩
        replace HB := Aside0.mk (below_step oB hb)
        refine hk_ hK 25 oH (fun hHeld => ?_)
        clear hK K
        refine pu_ 9 26 HT_ ?_
        refine dn_ HT_ ?_
        try go_wp2
        go_roundg k1
        case measure => have := HK1.out; omega
        case rel => exact ⟨(wrap64 (x5_1 + 1)), oS, H', ⟨by have := HK1.out; omega⟩, ⟨oB⟩⟩
       ·obtain rfl := Option.some.inj H
        try go_wp2
        replace HB := Aside0.mk (below_drew1 HB.out)
        have p509 : (0 ≤ (x5_1 : Int)) = True := oT
        have q509 : (x5_1 < (l0.length : Int)) = True := oT
        obtain ⟨ad509, e509, hx509_0, hx509_1⟩ := at_T63 HR0.out x5_1 oa oa
        have hw509_1 := hx509_1
        have hw509_0 := hx509_0
        cases e509
        replace hx509_0 := cB HB hx509_0
        replace hx509_1 := cB HB hx509_1
        have p510 : (0 ≤ (x5_1 : Int)) = True := oT
        have q510 : (x5_1 < (l1.length : Int)) = True := oT
        obtain ⟨ad510, e510, hx510_0, hx510_1⟩ := at_T63 HR1.out x5_1 oa oa
        have hw510_1 := hx510_1
        have hw510_0 := hx510_0
        cases e510
        replace hx510_0 := cB HB hx510_0
        replace hx510_1 := cB HB hx510_1
        refine st_ 10 (fun w' => w'.cell? (ad509.add ((x5_1).toNat * 2)) = some (.string ((rd_T63 l0 x5_1).f0)) ∧ w'.cell? ⟨(ad509.add ((x5_1).toNat * 2)).block, (ad509.add ((x5_1).toNat * 2)).off + 1, none⟩ = some (.int .i64 ((rd_T63 l0 x5_1).f1)) ∧ w'.cell? (ad510.add ((x5_1).toNat * 2)) = some (.string ((rd_T63 l1 x5_1).f0)) ∧ w'.cell? ⟨(ad510.add ((x5_1).toNat * 2)).block, (ad510.add ((x5_1).toNat * 2)).off + 1, none⟩ = some (.int .i64 ((rd_T63 l1 x5_1).f1))) laws_eqEntS.tab6 laws_eqEntS.bits6 oH (fun hHeld HT_ HW_ => ?_)
        generalize wr.drew = w11 at HB hx509_0 hx509_1 hx510_0 hx510_1 hHeld ⊢
        refine pu_ 0 17 HT_ ?_
        refine pu_ 1 18 HT_ ?_
        refine pu_ 2 19 HT_ ?_
        refine pu_ 4 21 HT_ ?_
        refine pu_ 5 22 HT_ ?_
        refine pu_ 6 23 HT_ ?_
        refine ta_ 3 20 HT_ HW_ hHeld ?_
        refine ta_ 7 24 HT_ HW_ hHeld ?_
        refine on_ 8 25 HT_ (fun K hK => ?_)
        refine gr_ 25 Tryz.func93 (laws_eqEnt.calls ((rd_T63 l0 x5_1).f0) ((rd_T63 l0 x5_1).f1) ((rd_T63 l1 x5_1).f0) ((rd_T63 l1 x5_1).f1) false _ A7.out) ?_
        rintro e w12 ⟨rfl, hb⟩
        refine ⟨_, rfl, ?_⟩
        replace HB := Aside0.mk (below_step oB hb)
        refine hk_ hK 25 oH (fun hHeld => ?_)
        clear hK K
        refine pu_ 9 26 HT_ ?_
        refine dn_ HT_ ?_
        try go_wp2
        go_ret
        exact ⟨oE, oB⟩
      ·cases H
     ·cases H
    ·obtain rfl := Option.some.inj H
     go_wp2
     go_ret
     exact ⟨oE, oB⟩
 ·rw [if_neg c3] at H
  have c3b0 : ((l0.length : Int) == (l1.length : Int)) = false := beq_eq_false_iff_ne.mpr c3
  have c3b1 : ((l0.length : Int) != (l1.length : Int)) = true := bne_iff_ne.mpr c3
  have c3b2 : (l0.length == l1.length) = false := by first | simpa using c3 | (simp at c3 ⊢; omega)
  obtain rfl := Option.some.inj H
  go_enter Tryz.func74, Tryz.ntmps74
  go_wp2
  go_ret
  exact ⟨oE, oB⟩

/-! ### laws_eqAttrS: function 75 -/
def laws_eqAttrS.l0 : Nat → List (S87) → List (S87) → Int → Option (Bool)
 | 0, _, _, _ => none
 | k + 1, x0, x1, x5 => if x5 < (x0.length : Int) then (if 0 ≤ x5 then (if x5 < (x1.length : Int) then ((laws_eqAttr.f ((rd_T87 x0 x5).f0) ((rd_T87 x0 x5).f1) ((rd_T87 x1 x5).f0) ((rd_T87 x1 x5).f1)).bind fun t516 => (if t516 = true then (laws_eqAttrS.l0 k x0 x1 (wrap64 (x5 + 1))) else (some false))) else (none)) else (none)) else (some true)
def laws_eqAttrS.f (k : Nat) (l0 : List (S87)) (l1 : List (S87)) : Option (Bool) := if (l0.length : Int) = (l1.length : Int) then (laws_eqAttrS.l0 k l0 l1 0) else (some false)
def laws_eqAttrS.T6 : Bool × List (List Nat × List Nat) := (true, [([], []), ([], []), ([0, 1], [0, 1]), ([2], [2]), ([], []), ([], []), ([4, 5], [4, 5]), ([6], [6]), ([3, 7], [3, 7]), ([8], [8])])
def laws_eqAttrS.B6 : List Nat := [0, 0, 3, 7, 0, 0, 48, 112, 255, 511]
theorem laws_eqAttrS.tab6 : rtab .any (opsOf Tryz.f75 6) = laws_eqAttrS.T6 := by kernel_rfl
theorem laws_eqAttrS.bits6 : waitsOk laws_eqAttrS.T6.2 laws_eqAttrS.B6 = true := by kernel_rfl
set_option maxHeartbeats 8000000 in
set_option maxRecDepth 100000 in
theorem laws_eqAttrS.calls (k : Nat) (A0 : Option Addr) (c0 : Nat) (l0 : List (S87)) (A1 : Option Addr) (c1 : Nat) (l1 : List (S87)) (r : Bool) (w : World) (hr0 : Kd.C k87 w A0 l0.length l0) (hc0 : l0.length ≤ c0) (hr1 : Kd.C k87 w A1 l1.length l1) (hc1 : l1.length ≤ c1) (h : laws_eqAttrS.f k l0 l1 = some r) :
  Calls Tryz.prog 75 #[.slice A0 l0.length c0, .slice A1 l1.length c1] w fun e w' => e = .returned (.bool r) ∧ Below w.heap.size w w' := by
 have hu87 := Tryz.underlying87
 have HR0 := Aside0.mk hr0
 have HC0 := Aside0.mk hc0
 clear hr0 hc0
 have HR1 := Aside0.mk hr1
 have HC1 := Aside0.mk hc1
 clear hr1 hc1
 have HB := Aside0.mk (Below.refl w.heap.size w)
 unfold laws_eqAttrS.f at h
 have H := h
 clear h
 by_cases c3 : (l0.length : Int) = (l1.length : Int)
 ·rw [if_pos c3] at H
  have c3b0 : ((l0.length : Int) == (l1.length : Int)) = true := beq_iff_eq.mpr c3
  have c3b1 : ((l0.length : Int) != (l1.length : Int)) = false := bne_eq_false_iff_eq.mpr c3
  have c3b2 : (l0.length == l1.length) = true := by first | simpa using c3 | (simp at c3 ⊢; omega)
  clear c3
  have H' := Aside0.mk H
  clear H
  go_enter Tryz.func75, Tryz.ntmps75
  go_wp2
  go_loopg [5] k (fun kq v5 w' => ∃ (x5_1 : Int), v5 = .int .i64 x5_1 ∧ Aside0 (laws_eqAttrS.l0 kq l0 l1 x5_1 = some r) ∧ Aside0 (kq ≤ k) ∧ Aside0 (Below w.heap.size w w'))
  case atStart => exact ⟨(0), oS, H', ⟨Nat.le_refl _⟩, ⟨oB⟩⟩
  case round =>
   clear H'
   try clear c1
   try clear c3
   obtain ⟨x5_1, rfl, HA, HK1, HB⟩ := hrel
   cases gk with
   | zero => exact absurd HA.out (by simp [laws_eqAttrS.l0])
   | succ k1 =>
    have H := HA.out
    clear HA
    simp only [laws_eqAttrS.l0] at H
    replace H := itD H
    rcases H with ⟨c4b0, H⟩ | ⟨c4b0, H⟩
    ·replace H := itD H
     rcases H with ⟨c5b0, H⟩ | ⟨c5b0, H⟩
     ·replace H := itD H
      rcases H with ⟨c6b0, H⟩ | ⟨c6b0, H⟩
      ·replace H := bA H
       obtain ⟨t516, A7, H⟩ := H
       try dsimp only at H
       replace H := itB H
       rcases H with ⟨rfl, H⟩ | ⟨rfl, H⟩
       ·have H' := Aside0.mk H
        clear H
        try go_wp2
        replace HB := Aside0.mk (below_drew1 HB.out)
        have p514 : (0 ≤ (x5_1 : Int)) = True := oT
        have q514 : (x5_1 < (l0.length : Int)) = True := oT
        obtain ⟨ad514, e514, hx514_0, hx514_1⟩ := at_T87 HR0.out x5_1 oa oa
        have hw514_1 := hx514_1
        have hw514_0 := hx514_0
        cases e514
        replace hx514_0 := cB HB hx514_0
        replace hx514_1 := cB HB hx514_1
        have p515 : (0 ≤ (x5_1 : Int)) = True := oT
        have q515 : (x5_1 < (l1.length : Int)) = True := oT
        obtain ⟨ad515, e515, hx515_0, hx515_1⟩ := at_T87 HR1.out x5_1 oa oa
        have hw515_1 := hx515_1
        have hw515_0 := hx515_0
        cases e515
        replace hx515_0 := cB HB hx515_0
        replace hx515_1 := cB HB hx515_1
        refine st_ 10 (fun w' => w'.cell? (ad514.add ((x5_1).toNat * 2)) = some (.string ((rd_T87 l0 x5_1).f0)) ∧ w'.cell? ⟨(ad514.add ((x5_1).toNat * 2)).block, (ad514.add ((x5_1).toNat * 2)).off + 1, none⟩ = some (.string ((rd_T87 l0 x5_1).f1)) ∧ w'.cell? (ad515.add ((x5_1).toNat * 2)) = some (.string ((rd_T87 l1 x5_1).f0)) ∧ w'.cell? ⟨(ad515.add ((x5_1).toNat * 2)).block, (ad515.add ((x5_1).toNat * 2)).off + 1, none⟩ = some (.string ((rd_T87 l1 x5_1).f1))) laws_eqAttrS.tab6 laws_eqAttrS.bits6 oH (fun hHeld HT_ HW_ => ?_)
        generalize wr.drew = w9 at HB hx514_0 hx514_1 hx515_0 hx515_1 hHeld ⊢
        refine pu_ 0 17 HT_ ?_
        refine pu_ 1 18 HT_ ?_
        refine pu_ 2 19 HT_ ?_
        refine pu_ 4 21 HT_ ?_
        refine pu_ 5 22 HT_ ?_
        refine pu_ 6 23 HT_ ?_
        refine ta_ 3 20 HT_ HW_ hHeld ?_
        refine ta_ 7 24 HT_ HW_ hHeld ?_
        refine on_ 8 25 HT_ (fun K hK => ?_)
        refine gr_ 25 Tryz.func94 (laws_eqAttr.calls ((rd_T87 l0 x5_1).f0) ((rd_T87 l0 x5_1).f1) ((rd_T87 l1 x5_1).f0) ((rd_T87 l1 x5_1).f1) true _ A7.out) ?_
        rintro e w10 ⟨rfl, hb⟩
        refine ⟨_, rfl, ?_⟩
        replace HB := Aside0.mk (below_step oB hb)
        refine hk_ hK 25 oH (fun hHeld => ?_)
        clear hK K
        refine pu_ 9 26 HT_ ?_
        refine dn_ HT_ ?_
        try go_wp2
        go_roundg k1
        case measure => have := HK1.out; omega
        case rel => exact ⟨(wrap64 (x5_1 + 1)), oS, H', ⟨by have := HK1.out; omega⟩, ⟨oB⟩⟩
       ·obtain rfl := Option.some.inj H
        try go_wp2
        replace HB := Aside0.mk (below_drew1 HB.out)
        have p514 : (0 ≤ (x5_1 : Int)) = True := oT
        have q514 : (x5_1 < (l0.length : Int)) = True := oT
        obtain ⟨ad514, e514, hx514_0, hx514_1⟩ := at_T87 HR0.out x5_1 oa oa
        have hw514_1 := hx514_1
        have hw514_0 := hx514_0
        cases e514
        replace hx514_0 := cB HB hx514_0
        replace hx514_1 := cB HB hx514_1
        have p515 : (0 ≤ (x5_1 : Int)) = True := oT
        have q515 : (x5_1 < (l1.length : Int)) = True := oT
        obtain ⟨ad515, e515, hx515_0, hx515_1⟩ := at_T87 HR1.out x5_1 oa oa
        have hw515_1 := hx515_1
        have hw515_0 := hx515_0
        cases e515
        replace hx515_0 := cB HB hx515_0
        replace hx515_1 := cB HB hx515_1
        refine st_ 10 (fun w' => w'.cell? (ad514.add ((x5_1).toNat * 2)) = some (.string ((rd_T87 l0 x5_1).f0)) ∧ w'.cell? ⟨(ad514.add ((x5_1).toNat * 2)).block, (ad514.add ((x5_1).toNat * 2)).off + 1, none⟩ = some (.string ((rd_T87 l0 x5_1).f1)) ∧ w'.cell? (ad515.add ((x5_1).toNat * 2)) = some (.string ((rd_T87 l1 x5_1).f0)) ∧ w'.cell? ⟨(ad515.add ((x5_1).toNat * 2)).block, (ad515.add ((x5_1).toNat * 2)).off + 1, none⟩ = some (.string ((rd_T87 l1 x5_1).f1))) laws_eqAttrS.tab6 laws_eqAttrS.bits6 oH (fun hHeld HT_ HW_ => ?_)
        generalize wr.drew = w11 at HB hx514_0 hx514_1 hx515_0 hx515_1 hHeld ⊢
        refine pu_ 0 17 HT_ ?_
        refine pu_ 1 18 HT_ ?_
        refine pu_ 2 19 HT_ ?_
        refine pu_ 4 21 HT_ ?_
        refine pu_ 5 22 HT_ ?_
        refine pu_ 6 23 HT_ ?_
        refine ta_ 3 20 HT_ HW_ hHeld ?_
        refine ta_ 7 24 HT_ HW_ hHeld ?_
        refine on_ 8 25 HT_ (fun K hK => ?_)
        refine gr_ 25 Tryz.func94 (laws_eqAttr.calls ((rd_T87 l0 x5_1).f0) ((rd_T87 l0 x5_1).f1) ((rd_T87 l1 x5_1).f0) ((rd_T87 l1 x5_1).f1) false _ A7.out) ?_
        rintro e w12 ⟨rfl, hb⟩
        refine ⟨_, rfl, ?_⟩
        replace HB := Aside0.mk (below_step oB hb)
        refine hk_ hK 25 oH (fun hHeld => ?_)
        clear hK K
        refine pu_ 9 26 HT_ ?_
        refine dn_ HT_ ?_
        try go_wp2
        go_ret
        exact ⟨oE, oB⟩
      ·cases H
     ·cases H
    ·obtain rfl := Option.some.inj H
     go_wp2
     go_ret
     exact ⟨oE, oB⟩
 ·rw [if_neg c3] at H
  have c3b0 : ((l0.length : Int) == (l1.length : Int)) = false := beq_eq_false_iff_ne.mpr c3
  have c3b1 : ((l0.length : Int) != (l1.length : Int)) = true := bne_iff_ne.mpr c3
  have c3b2 : (l0.length == l1.length) = false := by first | simpa using c3 | (simp at c3 ⊢; omega)
  obtain rfl := Option.some.inj H
  go_enter Tryz.func75, Tryz.ntmps75
  go_wp2
  go_ret
  exact ⟨oE, oB⟩

end Go.Proofs.YtolkhimbfegkkaaGreat.P
