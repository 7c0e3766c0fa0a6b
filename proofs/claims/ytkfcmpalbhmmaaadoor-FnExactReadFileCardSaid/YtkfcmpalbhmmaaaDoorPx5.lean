-- By this session's own program (wip/myprint.py) out of the translation; Lean checks it.
import Derived.Test.YtkfcmpalbhmmaaaDoorPx0
import Derived.Test.YtkfcmpalbhmmaaaDoorPx1
import Derived.Test.YtkfcmpalbhmmaaaDoorPx2
import Derived.Test.YtkfcmpalbhmmaaaDoorPx4
namespace Go.Proofs.YtkfcmpalbhmmaaaDoor.P
open Go.RowKit Go.Proofs.YtkfcmpalbhmmaaaDoorW.PrintWords Go.Proofs.YtkfcmpalbhmmaaaDoorW.PrintLast Go.Proofs.YtkfcmpalbhmmaaaDoorW.PrintMore
attribute [local go_sem] max2_int min2_int max_two min_two max_three min_three max_four min_four   -- for this text's walks alone
set_option linter.unusedVariables false
set_option linter.unusedSimpArgs false

/-! ### impl_Walk: function 35 -/
def impl_Walk.l0 : Nat → Int → List ByteArray → Int → Int → List (S64) → Int → Option (Int × Int)
 | 0, _, _, _, _, _, _ => none
 | k + 1, x8, x20, x21, x22, x418000, x418001 => if x22 < x21 then (if 0 ≤ x22 then (if x22 < (x20.length : Int) then ((impl_InodeAt.f k x418000 x418001 x8).bind fun bt423 => (if bt423.2.2.2.2.2.2 = true then (if bt423.2.1 = 2 then ((impl_EntOf.f k bt423.1 bt423.2.1 bt423.2.2.1 bt423.2.2.2.1 bt423.2.2.2.2.1 bt423.2.2.2.2.2.1 (rdOf ByteArray.empty x20 x22)).bind fun t437 => (if t437 = 0 then (some (0, 2)) else (impl_Walk.l0 k t437 x20 x21 (wrap64 (x22 + 1)) x418000 x418001))) else (some (0, 3))) else (some (0, 2)))) else (none)) else (none)) else (some (x8, 0))
def impl_Walk.f (k : Nat) (l0_0 : List (S64)) (a0_1 : Int) (a1 : ByteArray) : Option (Int × Int) := (impl_SplitPath.f k a1).bind fun bt418 => (if bt418.2 = true then (impl_Walk.l0 k 1 bt418.1 (bt418.1.length : Int) 0 l0_0 a0_1) else (some (0, 1)))
set_option maxHeartbeats 8000000 in
set_option maxRecDepth 100000 in
theorem impl_Walk.calls (k : Nat) (A0_0 : Option Addr) (c0_0 : Nat) (l0_0 : List (S64)) (a0_1 : Int) (a1 : ByteArray) (r1 : Int) (r2 : Int) (w : World) (hr0_0 : Kd.C k64 w A0_0 l0_0.length l0_0) (hc0_0 : l0_0.length ≤ c0_0) (h : impl_Walk.f k l0_0 a0_1 a1 = some (r1, r2)) (hG : GOk w := by exact gk_ oB (by first | (with_reducible assumption) | assumption)) :
  Calls Tryd.prog 35 #[.agg #[.slice A0_0 l0_0.length c0_0, .int .i64 a0_1], .string a1] w fun e w' => e = .returned (.tuple #[.int .i64 r1, .int .i64 r2]) ∧ Below w.heap.size w w' := by
 have HG := Aside0.mk hG
 clear hG
 have hu46 := Tryd.underlying46
 have hu64 := Tryd.underlying64
 have HR0_0 := Aside0.mk hr0_0
 have HC0_0 := Aside0.mk hc0_0
 clear hr0_0 hc0_0
 have HB := Aside0.mk (Below.refl w.heap.size w)
 unfold impl_Walk.f at h
 have H := h
 clear h
 replace H := bA H
 obtain ⟨⟨t418, t419⟩, A3, H⟩ := H
 try dsimp only at H
 replace H := itB H
 rcases H with ⟨rfl, H⟩ | ⟨rfl, H⟩
 ·have H' := Aside0.mk H
  clear H
  go_enter Tryd.func35, Tryd.ntmps35
  go_wp2_with (first | ((with_reducible refine gate_dst (N := 2) rfl ?_); refine bx_ 2 #[.slice A0_0 l0_0.length c0_0, .int .i64 a0_1] 46 ?_; intro gb417 hg w5 hbox hb; have BK417 := Aside0.mk (hbox); have GW417 := gs_ hg; have GE417 := gs_ hg; replace HB := Aside0.mk (below_step oB hb); clear hb hbox hg) | ((with_reducible refine gate_callee (f := 17) rfl ?_); refine gl_ 15 Tryd.func17 (impl_SplitPath.calls k a1 t418 true _ A3.out) ?_; rintro e w6 ⟨v420, rfl, ho0, hb⟩; refine ⟨_, rfl, ?_⟩; have HO421 := Aside0.mk (Kd.Q_lower ho0 (below_size oB)); replace BK417 := kb_ BK417 hb; replace HB := Aside0.mk (below_step oB hb); obtain ⟨Ao7, co7, eo7, _⟩ := Kd.Q_slice HO421.out; subst eo7))
  go_loopg [8, 22] k (fun kq v8 v22 w' => ∃ (x8_1 : Int) (x22_1 : Int), v8 = .int .i64 x8_1 ∧ v22 = .int .i64 x22_1 ∧ Aside0 (impl_Walk.l0 kq x8_1 t418 (t418.length : Int) x22_1 l0_0 a0_1 = some (r1, r2)) ∧ Aside0 (kq ≤ k) ∧ Aside0 (Kd.Q Kd.string 9 w' w.heap.size (fun _ => True) (.slice Ao7 t418.length co7) t418) ∧ Aside0 (w'.heap[gb417]? = some (.cells #[(.slice A0_0 l0_0.length c0_0), .int .i64 a0_1] 46 (0, 0))) ∧ Aside0 (Below w.heap.size w w'))
  case atStart => exact ⟨(1), (0), oS, oS, H', ⟨Nat.le_refl _⟩, ⟨by (with_reducible repeat (first | apply Kd.Q_alloc | apply Kd.Q_drewN | apply Kd.Q_drew)); exact HO421.out⟩, ⟨oF BK417⟩, ⟨oB⟩⟩
  case round =>
   clear H'
   obtain ⟨x8_1, x22_1, rfl, rfl, HA, HK1, HO_20, BK417, HB⟩ := hrel
   cases gk with
   | zero => exact absurd HA.out (by simp [impl_Walk.l0])
   | succ k1 =>
    have H := HA.out
    clear HA
    simp only [impl_Walk.l0] at H
    replace H := itD H
    rcases H with ⟨c8b0, H⟩ | ⟨c8b0, H⟩
    ·replace H := itD H
     rcases H with ⟨c9b0, H⟩ | ⟨c9b0, H⟩
     ·replace H := itD H
      rcases H with ⟨c10b0, H⟩ | ⟨c10b0, H⟩
      ·replace H := bA H
       obtain ⟨⟨t423, t424, t425, t426, t429, t432, t435⟩, A11, H⟩ := H
       try dsimp only at H
       replace H := itB H
       rcases H with ⟨rfl, H⟩ | ⟨rfl, H⟩
       ·by_cases c13 : t424 = 2
        ·rw [if_pos c13] at H
         have c13b0 : (t424 == 2) = true := beq_iff_eq.mpr c13
         have c13b1 : (t424 != 2) = false := bne_eq_false_iff_eq.mpr c13
         clear c13
         replace H := bA H
         obtain ⟨t437, A14, H⟩ := H
         try dsimp only at H
         by_cases c15 : t437 = 0
         ·rw [if_pos c15] at H
          have c15b0 : (t437 == 0) = true := beq_iff_eq.mpr c15
          have c15b1 : (t437 != 0) = false := bne_eq_false_iff_eq.mpr c15
          clear c15
          simp only [Option.some.injEq, Prod.mk.injEq] at H
          obtain ⟨rfl, rfl⟩ := H
          have p422 : (0 ≤ (x22_1 : Int)) = True := oT
          have q422 : (x22_1 < (t418.length : Int)) = True := oT
          obtain ⟨ad422, e422, hx422_0⟩ := Kd.at_string (Kd.Q_reads' HO_20.out).2.2 x22_1 oa oa
          cases e422
          obtain ⟨⟨_, _⟩, _, _⟩ := z2 BK417
          go_wp2_with (first | ((with_reducible refine gate_callee (f := 67) rfl ?_); refine gl_ 29 Tryd.func67 (impl_InodeAt.calls k1 _ _ l0_0 a0_1 x8_1 t423 t424 t425 t426 t429 t432 true _ (kC HR0_0) HC0_0.out A11.out) ?_; rintro e w17 ⟨v427, v430, v433, rfl, ho0, ho1, ho2, hb⟩; refine ⟨_, rfl, ?_⟩; have HO428 := Aside0.mk (Kd.R_lower ho0 (below_size oB)); have HO431 := Aside0.mk (Kd.R_lower ho1 (below_size oB)); have HO434 := Aside0.mk (Kd.R_lower ho2 (below_size oB)); replace HO_20 := Aside0.mk (Kd.Q_below (by (with_reducible repeat (first | apply Kd.Q_alloc | apply Kd.Q_drewN | apply Kd.Q_drew)); exact HO_20.out) hb); replace BK417 := kb_ BK417 hb; replace HB := Aside0.mk (below_step oB hb); (try clear ho1); (try clear ho2)) | ((with_reducible refine gate_dst (N := 11) rfl ?_); refine bx_ 11 #[.int .i64 0, .int .i64 0, .int .i64 0, .slice none 0 0, .slice none 0 0, .slice none 0 0] 64 ?_; intro gb436 hg w18 hbox hb; have BK436 := Aside0.mk (hbox); have GW436 := gs_ hg; have GE436 := gs_ hg; have NB417_436 := nl_ hg BK417; have NB436_417 := nr_ hg BK417; replace HO_20 := Aside0.mk (Kd.Q_below (by (with_reducible repeat (first | apply Kd.Q_alloc | apply Kd.Q_drewN | apply Kd.Q_drew)); exact HO_20.out) hb); replace HO428 := kr_ HO428 hb; replace HO431 := kr_ HO431 hb; replace HO434 := kr_ HO434 hb; replace BK417 := kb_ BK417 hb; replace HB := Aside0.mk (below_step oB hb); clear hb hbox hg; have hnb19 := NB436_417.out; have hnc19 := NB417_436.out; obtain ⟨⟨_, _, _, _, _, _⟩, _, _, _, _, _, _⟩ := z6 BK436; obtain ⟨Ao21, co21, eo21⟩ := Kd.R_slice HO428.out; subst eo21; obtain ⟨Ao22, co22, eo22⟩ := Kd.R_slice HO431.out; subst eo22; obtain ⟨Ao23, co23, eo23⟩ := Kd.R_slice HO434.out; subst eo23) | ((with_reducible refine gate_callee (f := 68) rfl ?_); refine gl_ 41 Tryd.func68 (impl_EntOf.calls k1 t423 t424 t425 _ _ t426 _ _ t429 _ _ t432 (rdOf ByteArray.empty t418 x22_1) t437 _ ?side1 (ko HO428) ?side3 (ko HO431) ?side5 (ko HO434) A14.out) ?_; (case side1 => refine (Kd.R_reads' (e := 5) (base := w.heap.size) (ok := fun k_ => True) (n := t426.length) (c := co21) ?_).2.2; exact (by (with_reducible repeat (first | apply Kd.R_alloc | apply Kd.R_drewN | apply Kd.R_drew)); exact (Kd.R_mono (Kd.R_far (p := ⟨gb436, 5, none⟩) (Kd.R_far (p := ⟨gb436, 4, none⟩) (Kd.R_far (p := ⟨gb436, 3, none⟩) (Kd.R_far (p := ⟨gb436, 2, none⟩) (Kd.R_far (p := ⟨gb436, 1, none⟩) (Kd.R_far (p := ⟨gb436, 0, none⟩) (Kd.R_types HO428.out BK436.out (by decide)) (fun _ hk => hk.2) (.int .i64 t423)) (fun _ hk => hk.2) (.int .i64 t424)) (fun _ hk => hk.2) (.int .i64 t425)) (fun _ hk => hk.2) (.slice Ao21 t426.length co21)) (fun _ hk => hk.2) (.slice Ao22 t429.length co22)) (fun _ hk => hk.2) (.slice Ao23 t432.length co23)) (fun _ h_ => h_.1)))); (case side3 => refine (Kd.R_reads' (e := 91) (base := w.heap.size) (ok := fun k_ => True) (n := t429.length) (c := co22) ?_).2.2; exact (by (with_reducible repeat (first | apply Kd.R_alloc | apply Kd.R_drewN | apply Kd.R_drew)); exact (Kd.R_mono (Kd.R_far (p := ⟨gb436, 5, none⟩) (Kd.R_far (p := ⟨gb436, 4, none⟩) (Kd.R_far (p := ⟨gb436, 3, none⟩) (Kd.R_far (p := ⟨gb436, 2, none⟩) (Kd.R_far (p := ⟨gb436, 1, none⟩) (Kd.R_far (p := ⟨gb436, 0, none⟩) (Kd.R_types HO431.out BK436.out (by decide)) (fun _ hk => hk.2) (.int .i64 t423)) (fun _ hk => hk.2) (.int .i64 t424)) (fun _ hk => hk.2) (.int .i64 t425)) (fun _ hk => hk.2) (.slice Ao21 t426.length co21)) (fun _ hk => hk.2) (.slice Ao22 t429.length co22)) (fun _ hk => hk.2) (.slice Ao23 t432.length co23)) (fun _ h_ => h_.1)))); (case side5 => refine (Kd.R_reads' (e := 87) (base := w.heap.size) (ok := fun k_ => True) (n := t432.length) (c := co23) ?_).2.2; exact (by (with_reducible repeat (first | apply Kd.R_alloc | apply Kd.R_drewN | apply Kd.R_drew)); exact (Kd.R_mono (Kd.R_far (p := ⟨gb436, 5, none⟩) (Kd.R_far (p := ⟨gb436, 4, none⟩) (Kd.R_far (p := ⟨gb436, 3, none⟩) (Kd.R_far (p := ⟨gb436, 2, none⟩) (Kd.R_far (p := ⟨gb436, 1, none⟩) (Kd.R_far (p := ⟨gb436, 0, none⟩) (Kd.R_types HO434.out BK436.out (by decide)) (fun _ hk => hk.2) (.int .i64 t423)) (fun _ hk => hk.2) (.int .i64 t424)) (fun _ hk => hk.2) (.int .i64 t425)) (fun _ hk => hk.2) (.slice Ao21 t426.length co21)) (fun _ hk => hk.2) (.slice Ao22 t429.length co22)) (fun _ hk => hk.2) (.slice Ao23 t432.length co23)) (fun _ h_ => h_.1)))); rintro e w24 ⟨rfl, hb⟩; refine ⟨_, rfl, ?_⟩; replace HO_20 := Aside0.mk (Kd.Q_below (by (with_reducible repeat (first | apply Kd.Q_alloc | apply Kd.Q_drewN | apply Kd.Q_drew)); exact (Kd.Q_mono (Kd.Q_far (p := ⟨gb436, 5, none⟩) (Kd.Q_far (p := ⟨gb436, 4, none⟩) (Kd.Q_far (p := ⟨gb436, 3, none⟩) (Kd.Q_far (p := ⟨gb436, 2, none⟩) (Kd.Q_far (p := ⟨gb436, 1, none⟩) (Kd.Q_far (p := ⟨gb436, 0, none⟩) (Kd.Q_types HO_20.out BK436.out (by decide)) (fun _ hk => hk.2) (.int .i64 t423)) (fun _ hk => hk.2) (.int .i64 t424)) (fun _ hk => hk.2) (.int .i64 t425)) (fun _ hk => hk.2) (.slice Ao21 t426.length co21)) (fun _ hk => hk.2) (.slice Ao22 t429.length co22)) (fun _ hk => hk.2) (.slice Ao23 t432.length co23)) (fun _ h_ => h_.1))) hb); replace HO428 := Aside0.mk (Kd.R_below (by (with_reducible repeat (first | apply Kd.R_alloc | apply Kd.R_drewN | apply Kd.R_drew)); exact (Kd.R_mono (Kd.R_far (p := ⟨gb436, 5, none⟩) (Kd.R_far (p := ⟨gb436, 4, none⟩) (Kd.R_far (p := ⟨gb436, 3, none⟩) (Kd.R_far (p := ⟨gb436, 2, none⟩) (Kd.R_far (p := ⟨gb436, 1, none⟩) (Kd.R_far (p := ⟨gb436, 0, none⟩) (Kd.R_types HO428.out BK436.out (by decide)) (fun _ hk => hk.2) (.int .i64 t423)) (fun _ hk => hk.2) (.int .i64 t424)) (fun _ hk => hk.2) (.int .i64 t425)) (fun _ hk => hk.2) (.slice Ao21 t426.length co21)) (fun _ hk => hk.2) (.slice Ao22 t429.length co22)) (fun _ hk => hk.2) (.slice Ao23 t432.length co23)) (fun _ h_ => h_.1))) hb); replace HO431 := Aside0.mk (Kd.R_below (by (with_reducible repeat (first | apply Kd.R_alloc | apply Kd.R_drewN | apply Kd.R_drew)); exact (Kd.R_mono (Kd.R_far (p := ⟨gb436, 5, none⟩) (Kd.R_far (p := ⟨gb436, 4, none⟩) (Kd.R_far (p := ⟨gb436, 3, none⟩) (Kd.R_far (p := ⟨gb436, 2, none⟩) (Kd.R_far (p := ⟨gb436, 1, none⟩) (Kd.R_far (p := ⟨gb436, 0, none⟩) (Kd.R_types HO431.out BK436.out (by decide)) (fun _ hk => hk.2) (.int .i64 t423)) (fun _ hk => hk.2) (.int .i64 t424)) (fun _ hk => hk.2) (.int .i64 t425)) (fun _ hk => hk.2) (.slice Ao21 t426.length co21)) (fun _ hk => hk.2) (.slice Ao22 t429.length co22)) (fun _ hk => hk.2) (.slice Ao23 t432.length co23)) (fun _ h_ => h_.1))) hb); replace HO434 := Aside0.mk (Kd.R_below (by (with_reducible repeat (first | apply Kd.R_alloc | apply Kd.R_drewN | apply Kd.R_drew)); exact (Kd.R_mono (Kd.R_far (p := ⟨gb436, 5, none⟩) (Kd.R_far (p := ⟨gb436, 4, none⟩) (Kd.R_far (p := ⟨gb436, 3, none⟩) (Kd.R_far (p := ⟨gb436, 2, none⟩) (Kd.R_far (p := ⟨gb436, 1, none⟩) (Kd.R_far (p := ⟨gb436, 0, none⟩) (Kd.R_types HO434.out BK436.out (by decide)) (fun _ hk => hk.2) (.int .i64 t423)) (fun _ hk => hk.2) (.int .i64 t424)) (fun _ hk => hk.2) (.int .i64 t425)) (fun _ hk => hk.2) (.slice Ao21 t426.length co21)) (fun _ hk => hk.2) (.slice Ao22 t429.length co22)) (fun _ hk => hk.2) (.slice Ao23 t432.length co23)) (fun _ h_ => h_.1))) hb); replace BK417 := Aside0.mk (blk_below (g := gb417) (o := .cells #[.slice A0_0 l0_0.length c0_0, .int .i64 a0_1] 46 (0, 0)) (by (with_reducible repeat (first | refine blk_drewN ?_ _ | refine blk_drew ?_ | refine blk_alloc ?_ _)); refine blk_far ?_ NB417_436.out _; (with_reducible repeat (first | refine blk_drewN ?_ _ | refine blk_drew ?_ | refine blk_alloc ?_ _)); refine blk_far ?_ NB417_436.out _; (with_reducible repeat (first | refine blk_drewN ?_ _ | refine blk_drew ?_ | refine blk_alloc ?_ _)); refine blk_far ?_ NB417_436.out _; (with_reducible repeat (first | refine blk_drewN ?_ _ | refine blk_drew ?_ | refine blk_alloc ?_ _)); refine blk_far ?_ NB417_436.out _; (with_reducible repeat (first | refine blk_drewN ?_ _ | refine blk_drew ?_ | refine blk_alloc ?_ _)); refine blk_far ?_ NB417_436.out _; (with_reducible repeat (first | refine blk_drewN ?_ _ | refine blk_drew ?_ | refine blk_alloc ?_ _)); refine blk_far ?_ NB417_436.out _; (with_reducible repeat (first | refine blk_drewN ?_ _ | refine blk_drew ?_ | refine blk_alloc ?_ _)); exact BK417.out) hb); replace BK436 := Aside0.mk (blk_below (g := gb436) (o := .cells #[.int .i64 t423, .int .i64 t424, .int .i64 t425, .slice Ao21 t426.length co21, .slice Ao22 t429.length co22, .slice Ao23 t432.length co23] 64 (0, 0)) (by (with_reducible repeat (first | refine blk_drewN ?_ _ | refine blk_drew ?_ | refine blk_alloc ?_ _)); refine blk_put (cs := #[.int .i64 t423, .int .i64 t424, .int .i64 t425, .slice Ao21 t426.length co21, .slice Ao22 t429.length co22, .slice none 0 0]) ?_ 5 _ rfl; (with_reducible repeat (first | refine blk_drewN ?_ _ | refine blk_drew ?_ | refine blk_alloc ?_ _)); refine blk_put (cs := #[.int .i64 t423, .int .i64 t424, .int .i64 t425, .slice Ao21 t426.length co21, .slice none 0 0, .slice none 0 0]) ?_ 4 _ rfl; (with_reducible repeat (first | refine blk_drewN ?_ _ | refine blk_drew ?_ | refine blk_alloc ?_ _)); refine blk_put (cs := #[.int .i64 t423, .int .i64 t424, .int .i64 t425, .slice none 0 0, .slice none 0 0, .slice none 0 0]) ?_ 3 _ rfl; (with_reducible repeat (first | refine blk_drewN ?_ _ | refine blk_drew ?_ | refine blk_alloc ?_ _)); refine blk_put (cs := #[.int .i64 t423, .int .i64 t424, .int .i64 0, .slice none 0 0, .slice none 0 0, .slice none 0 0]) ?_ 2 _ rfl; (with_reducible repeat (first | refine blk_drewN ?_ _ | refine blk_drew ?_ | refine blk_alloc ?_ _)); refine blk_put (cs := #[.int .i64 t423, .int .i64 0, .int .i64 0, .slice none 0 0, .slice none 0 0, .slice none 0 0]) ?_ 1 _ rfl; (with_reducible repeat (first | refine blk_drewN ?_ _ | refine blk_drew ?_ | refine blk_alloc ?_ _)); refine blk_put (cs := #[.int .i64 0, .int .i64 0, .int .i64 0, .slice none 0 0, .slice none 0 0, .slice none 0 0]) ?_ 0 _ rfl; (with_reducible repeat (first | refine blk_drewN ?_ _ | refine blk_drew ?_ | refine blk_alloc ?_ _)); exact BK436.out) hb); replace HB := Aside0.mk (below_step oB hb); (try clear hk)))
          go_ret2
          exact ⟨oE, oB⟩
         ·rw [if_neg c15] at H
          have c15b0 : (t437 == 0) = false := beq_eq_false_iff_ne.mpr c15
          have c15b1 : (t437 != 0) = true := bne_iff_ne.mpr c15
          have H' := Aside0.mk H
          clear H
          have p422 : (0 ≤ (x22_1 : Int)) = True := oT
          have q422 : (x22_1 < (t418.length : Int)) = True := oT
          obtain ⟨ad422, e422, hx422_0⟩ := Kd.at_string (Kd.Q_reads' HO_20.out).2.2 x22_1 oa oa
          cases e422
          obtain ⟨⟨_, _⟩, _, _⟩ := z2 BK417
          go_wp2_with (first | ((with_reducible refine gate_callee (f := 67) rfl ?_); refine gl_ 29 Tryd.func67 (impl_InodeAt.calls k1 _ _ l0_0 a0_1 x8_1 t423 t424 t425 t426 t429 t432 true _ (kC HR0_0) HC0_0.out A11.out) ?_; rintro e w26 ⟨v427, v430, v433, rfl, ho0, ho1, ho2, hb⟩; refine ⟨_, rfl, ?_⟩; have HO428 := Aside0.mk (Kd.R_lower ho0 (below_size oB)); have HO431 := Aside0.mk (Kd.R_lower ho1 (below_size oB)); have HO434 := Aside0.mk (Kd.R_lower ho2 (below_size oB)); replace HO_20 := Aside0.mk (Kd.Q_below (by (with_reducible repeat (first | apply Kd.Q_alloc | apply Kd.Q_drewN | apply Kd.Q_drew)); exact HO_20.out) hb); replace BK417 := kb_ BK417 hb; replace HB := Aside0.mk (below_step oB hb); (try clear ho1); (try clear ho2)) | ((with_reducible refine gate_dst (N := 11) rfl ?_); refine bx_ 11 #[.int .i64 0, .int .i64 0, .int .i64 0, .slice none 0 0, .slice none 0 0, .slice none 0 0] 64 ?_; intro gb436 hg w27 hbox hb; have BK436 := Aside0.mk (hbox); have GW436 := gs_ hg; have GE436 := gs_ hg; have NB417_436 := nl_ hg BK417; have NB436_417 := nr_ hg BK417; replace HO_20 := Aside0.mk (Kd.Q_below (by (with_reducible repeat (first | apply Kd.Q_alloc | apply Kd.Q_drewN | apply Kd.Q_drew)); exact HO_20.out) hb); replace HO428 := kr_ HO428 hb; replace HO431 := kr_ HO431 hb; replace HO434 := kr_ HO434 hb; replace BK417 := kb_ BK417 hb; replace HB := Aside0.mk (below_step oB hb); clear hb hbox hg; have hnb28 := NB436_417.out; have hnc28 := NB417_436.out; obtain ⟨⟨_, _, _, _, _, _⟩, _, _, _, _, _, _⟩ := z6 BK436; obtain ⟨Ao30, co30, eo30⟩ := Kd.R_slice HO428.out; subst eo30; obtain ⟨Ao31, co31, eo31⟩ := Kd.R_slice HO431.out; subst eo31; obtain ⟨Ao32, co32, eo32⟩ := Kd.R_slice HO434.out; subst eo32) | ((with_reducible refine gate_callee (f := 68) rfl ?_); refine gl_ 41 Tryd.func68 (impl_EntOf.calls k1 t423 t424 t425 _ _ t426 _ _ t429 _ _ t432 (rdOf ByteArray.empty t418 x22_1) t437 _ ?side1 (ko HO428) ?side3 (ko HO431) ?side5 (ko HO434) A14.out) ?_; (case side1 => refine (Kd.R_reads' (e := 5) (base := w.heap.size) (ok := fun k_ => True) (n := t426.length) (c := co30) ?_).2.2; exact (by (with_reducible repeat (first | apply Kd.R_alloc | apply Kd.R_drewN | apply Kd.R_drew)); exact (Kd.R_mono (Kd.R_far (p := ⟨gb436, 5, none⟩) (Kd.R_far (p := ⟨gb436, 4, none⟩) (Kd.R_far (p := ⟨gb436, 3, none⟩) (Kd.R_far (p := ⟨gb436, 2, none⟩) (Kd.R_far (p := ⟨gb436, 1, none⟩) (Kd.R_far (p := ⟨gb436, 0, none⟩) (Kd.R_types HO428.out BK436.out (by decide)) (fun _ hk => hk.2) (.int .i64 t423)) (fun _ hk => hk.2) (.int .i64 t424)) (fun _ hk => hk.2) (.int .i64 t425)) (fun _ hk => hk.2) (.slice Ao30 t426.length co30)) (fun _ hk => hk.2) (.slice Ao31 t429.length co31)) (fun _ hk => hk.2) (.slice Ao32 t432.length co32)) (fun _ h_ => h_.1)))); (case side3 => refine (Kd.R_reads' (e := 91) (base := w.heap.size) (ok := fun k_ => True) (n := t429.length) (c := co31) ?_).2.2; exact (by (with_reducible repeat (first | apply Kd.R_alloc | apply Kd.R_drewN | apply Kd.R_drew)); exact (Kd.R_mono (Kd.R_far (p := ⟨gb436, 5, none⟩) (Kd.R_far (p := ⟨gb436, 4, none⟩) (Kd.R_far (p := ⟨gb436, 3, none⟩) (Kd.R_far (p := ⟨gb436, 2, none⟩) (Kd.R_far (p := ⟨gb436, 1, none⟩) (Kd.R_far (p := ⟨gb436, 0, none⟩) (Kd.R_types HO431.out BK436.out (by decide)) (fun _ hk => hk.2) (.int .i64 t423)) (fun _ hk => hk.2) (.int .i64 t424)) (fun _ hk => hk.2) (.int .i64 t425)) (fun _ hk => hk.2) (.slice Ao30 t426.length co30)) (fun _ hk => hk.2) (.slice Ao31 t429.length co31)) (fun _ hk => hk.2) (.slice Ao32 t432.length co32)) (fun _ h_ => h_.1)))); (case side5 => refine (Kd.R_reads' (e := 87) (base := w.heap.size) (ok := fun k_ => True) (n := t432.length) (c := co32) ?_).2.2; exact (by (with_reducible repeat (first | apply Kd.R_alloc | apply Kd.R_drewN | apply Kd.R_drew)); exact (Kd.R_mono (Kd.R_far (p := ⟨gb436, 5, none⟩) (Kd.R_far (p := ⟨gb436, 4, none⟩) (Kd.R_far (p := ⟨gb436, 3, none⟩) (Kd.R_far (p := ⟨gb436, 2, none⟩) (Kd.R_far (p := ⟨gb436, 1, none⟩) (Kd.R_far (p := ⟨gb436, 0, none⟩) (Kd.R_types HO434.out BK436.out (by decide)) (fun _ hk => hk.2) (.int .i64 t423)) (fun _ hk => hk.2) (.int .i64 t424)) (fun _ hk => hk.2) (.int .i64 t425)) (fun _ hk => hk.2) (.slice Ao30 t426.length co30)) (fun _ hk => hk.2) (.slice Ao31 t429.length co31)) (fun _ hk => hk.2) (.slice Ao32 t432.length co32)) (fun _ h_ => h_.1)))); rintro e w33 ⟨rfl, hb⟩; refine ⟨_, rfl, ?_⟩; replace HO_20 := Aside0.mk (Kd.Q_below (by (with_reducible repeat (first | apply Kd.Q_alloc | apply Kd.Q_drewN | apply Kd.Q_drew)); exact (Kd.Q_mono (Kd.Q_far (p := ⟨gb436, 5, none⟩) (Kd.Q_far (p := ⟨gb436, 4, none⟩) (Kd.Q_far (p := ⟨gb436, 3, none⟩) (Kd.Q_far (p := ⟨gb436, 2, none⟩) (Kd.Q_far (p := ⟨gb436, 1, none⟩) (Kd.Q_far (p := ⟨gb436, 0, none⟩) (Kd.Q_types HO_20.out BK436.out (by decide)) (fun _ hk => hk.2) (.int .i64 t423)) (fun _ hk => hk.2) (.int .i64 t424)) (fun _ hk => hk.2) (.int .i64 t425)) (fun _ hk => hk.2) (.slice Ao30 t426.length co30)) (fun _ hk => hk.2) (.slice Ao31 t429.length co31)) (fun _ hk => hk.2) (.slice Ao32 t432.length co32)) (fun _ h_ => h_.1))) hb); replace HO428 := Aside0.mk (Kd.R_below (by (with_reducible repeat (first | apply Kd.R_alloc | apply Kd.R_drewN | apply Kd.R_drew)); exact (Kd.R_mono (Kd.R_far (p := ⟨gb436, 5, none⟩) (Kd.R_far (p := ⟨gb436, 4, none⟩) (Kd.R_far (p := ⟨gb436, 3, none⟩) (Kd.R_far (p := ⟨gb436, 2, none⟩) (Kd.R_far (p := ⟨gb436, 1, none⟩) (Kd.R_far (p := ⟨gb436, 0, none⟩) (Kd.R_types HO428.out BK436.out (by decide)) (fun _ hk => hk.2) (.int .i64 t423)) (fun _ hk => hk.2) (.int .i64 t424)) (fun _ hk => hk.2) (.int .i64 t425)) (fun _ hk => hk.2) (.slice Ao30 t426.length co30)) (fun _ hk => hk.2) (.slice Ao31 t429.length co31)) (fun _ hk => hk.2) (.slice Ao32 t432.length co32)) (fun _ h_ => h_.1))) hb); replace HO431 := Aside0.mk (Kd.R_below (by (with_reducible repeat (first | apply Kd.R_alloc | apply Kd.R_drewN | apply Kd.R_drew)); exact (Kd.R_mono (Kd.R_far (p := ⟨gb436, 5, none⟩) (Kd.R_far (p := ⟨gb436, 4, none⟩) (Kd.R_far (p := ⟨gb436, 3, none⟩) (Kd.R_far (p := ⟨gb436, 2, none⟩) (Kd.R_far (p := ⟨gb436, 1, none⟩) (Kd.R_far (p := ⟨gb436, 0, none⟩) (Kd.R_types HO431.out BK436.out (by decide)) (fun _ hk => hk.2) (.int .i64 t423)) (fun _ hk => hk.2) (.int .i64 t424)) (fun _ hk => hk.2) (.int .i64 t425)) (fun _ hk => hk.2) (.slice Ao30 t426.length co30)) (fun _ hk => hk.2) (.slice Ao31 t429.length co31)) (fun _ hk => hk.2) (.slice Ao32 t432.length co32)) (fun _ h_ => h_.1))) hb); replace HO434 := Aside0.mk (Kd.R_below (by (with_reducible repeat (first | apply Kd.R_alloc | apply Kd.R_drewN | apply Kd.R_drew)); exact (Kd.R_mono (Kd.R_far (p := ⟨gb436, 5, none⟩) (Kd.R_far (p := ⟨gb436, 4, none⟩) (Kd.R_far (p := ⟨gb436, 3, none⟩) (Kd.R_far (p := ⟨gb436, 2, none⟩) (Kd.R_far (p := ⟨gb436, 1, none⟩) (Kd.R_far (p := ⟨gb436, 0, none⟩) (Kd.R_types HO434.out BK436.out (by decide)) (fun _ hk => hk.2) (.int .i64 t423)) (fun _ hk => hk.2) (.int .i64 t424)) (fun _ hk => hk.2) (.int .i64 t425)) (fun _ hk => hk.2) (.slice Ao30 t426.length co30)) (fun _ hk => hk.2) (.slice Ao31 t429.length co31)) (fun _ hk => hk.2) (.slice Ao32 t432.length co32)) (fun _ h_ => h_.1))) hb); replace BK417 := Aside0.mk (blk_below (g := gb417) (o := .cells #[.slice A0_0 l0_0.length c0_0, .int .i64 a0_1] 46 (0, 0)) (by (with_reducible repeat (first | refine blk_drewN ?_ _ | refine blk_drew ?_ | refine blk_alloc ?_ _)); refine blk_far ?_ NB417_436.out _; (with_reducible repeat (first | refine blk_drewN ?_ _ | refine blk_drew ?_ | refine blk_alloc ?_ _)); refine blk_far ?_ NB417_436.out _; (with_reducible repeat (first | refine blk_drewN ?_ _ | refine blk_drew ?_ | refine blk_alloc ?_ _)); refine blk_far ?_ NB417_436.out _; (with_reducible repeat (first | refine blk_drewN ?_ _ | refine blk_drew ?_ | refine blk_alloc ?_ _)); refine blk_far ?_ NB417_436.out _; (with_reducible repeat (first | refine blk_drewN ?_ _ | refine blk_drew ?_ | refine blk_alloc ?_ _)); refine blk_far ?_ NB417_436.out _; (with_reducible repeat (first | refine blk_drewN ?_ _ | refine blk_drew ?_ | refine blk_alloc ?_ _)); refine blk_far ?_ NB417_436.out _; (with_reducible repeat (first | refine blk_drewN ?_ _ | refine blk_drew ?_ | refine blk_alloc ?_ _)); exact BK417.out) hb); replace BK436 := Aside0.mk (blk_below (g := gb436) (o := .cells #[.int .i64 t423, .int .i64 t424, .int .i64 t425, .slice Ao30 t426.length co30, .slice Ao31 t429.length co31, .slice Ao32 t432.length co32] 64 (0, 0)) (by (with_reducible repeat (first | refine blk_drewN ?_ _ | refine blk_drew ?_ | refine blk_alloc ?_ _)); refine blk_put (cs := #[.int .i64 t423, .int .i64 t424, .int .i64 t425, .slice Ao30 t426.length co30, .slice Ao31 t429.length co31, .slice none 0 0]) ?_ 5 _ rfl; (with_reducible repeat (first | refine blk_drewN ?_ _ | refine blk_drew ?_ | refine blk_alloc ?_ _)); refine blk_put (cs := #[.int .i64 t423, .int .i64 t424, .int .i64 t425, .slice Ao30 t426.length co30, .slice none 0 0, .slice none 0 0]) ?_ 4 _ rfl; (with_reducible repeat (first | refine blk_drewN ?_ _ | refine blk_drew ?_ | refine blk_alloc ?_ _)); refine blk_put (cs := #[.int .i64 t423, .int .i64 t424, .int .i64 t425, .slice none 0 0, .slice none 0 0, .slice none 0 0]) ?_ 3 _ rfl; (with_reducible repeat (first | refine blk_drewN ?_ _ | refine blk_drew ?_ | refine blk_alloc ?_ _)); refine blk_put (cs := #[.int .i64 t423, .int .i64 t424, .int .i64 0, .slice none 0 0, .slice none 0 0, .slice none 0 0]) ?_ 2 _ rfl; (with_reducible repeat (first | refine blk_drewN ?_ _ | refine blk_drew ?_ | refine blk_alloc ?_ _)); refine blk_put (cs := #[.int .i64 t423, .int .i64 0, .int .i64 0, .slice none 0 0, .slice none 0 0, .slice none 0 0]) ?_ 1 _ rfl; (with_reducible repeat (first | refine blk_drewN ?_ _ | refine blk_drew ?_ | refine blk_alloc ?_ _)); refine blk_put (cs := #[.int .i64 0, .int .i64 0, .int .i64 0, .slice none 0 0, .slice none 0 0, .slice none 0 0]) ?_ 0 _ rfl; (with_reducible repeat (first | refine blk_drewN ?_ _ | refine blk_drew ?_ | refine blk_alloc ?_ _)); exact BK436.out) hb); replace HB := Aside0.mk (below_step oB hb); (try clear hk)))
          go_roundg k1
          case measure => have := HK1.out; omega
          case rel => exact ⟨(t437), (wrap64 (x22_1 + 1)), oS, oS, H', ⟨by have := HK1.out; omega⟩, ⟨by (with_reducible repeat (first | apply Kd.Q_alloc | apply Kd.Q_drewN | apply Kd.Q_drew)); exact HO_20.out⟩, ⟨oF BK417⟩, ⟨oB⟩⟩
        ·rw [if_neg c13] at H
         have c13b0 : (t424 == 2) = false := beq_eq_false_iff_ne.mpr c13
         have c13b1 : (t424 != 2) = true := bne_iff_ne.mpr c13
         simp only [Option.some.injEq, Prod.mk.injEq] at H
         obtain ⟨rfl, rfl⟩ := H
         have p422 : (0 ≤ (x22_1 : Int)) = True := oT
         have q422 : (x22_1 < (t418.length : Int)) = True := oT
         obtain ⟨ad422, e422, hx422_0⟩ := Kd.at_string (Kd.Q_reads' HO_20.out).2.2 x22_1 oa oa
         cases e422
         obtain ⟨⟨_, _⟩, _, _⟩ := z2 BK417
         go_wp2_with (first | ((with_reducible refine gate_callee (f := 67) rfl ?_); refine gl_ 29 Tryd.func67 (impl_InodeAt.calls k1 _ _ l0_0 a0_1 x8_1 t423 t424 t425 t426 t429 t432 true _ (kC HR0_0) HC0_0.out A11.out) ?_; rintro e w35 ⟨v427, v430, v433, rfl, ho0, ho1, ho2, hb⟩; refine ⟨_, rfl, ?_⟩; have HO428 := Aside0.mk (Kd.R_lower ho0 (below_size oB)); have HO431 := Aside0.mk (Kd.R_lower ho1 (below_size oB)); have HO434 := Aside0.mk (Kd.R_lower ho2 (below_size oB)); replace HO_20 := Aside0.mk (Kd.Q_below (by (with_reducible repeat (first | apply Kd.Q_alloc | apply Kd.Q_drewN | apply Kd.Q_drew)); exact HO_20.out) hb); replace BK417 := kb_ BK417 hb; replace HB := Aside0.mk (below_step oB hb); (try clear ho1); (try clear ho2)) | ((with_reducible refine gate_dst (N := 11) rfl ?_); refine bx_ 11 #[.int .i64 0, .int .i64 0, .int .i64 0, .slice none 0 0, .slice none 0 0, .slice none 0 0] 64 ?_; intro gb436 hg w36 hbox hb; have BK436 := Aside0.mk (hbox); have GW436 := gs_ hg; have GE436 := gs_ hg; have NB417_436 := nl_ hg BK417; have NB436_417 := nr_ hg BK417; replace HO_20 := Aside0.mk (Kd.Q_below (by (with_reducible repeat (first | apply Kd.Q_alloc | apply Kd.Q_drewN | apply Kd.Q_drew)); exact HO_20.out) hb); replace HO428 := kr_ HO428 hb; replace HO431 := kr_ HO431 hb; replace HO434 := kr_ HO434 hb; replace BK417 := kb_ BK417 hb; replace HB := Aside0.mk (below_step oB hb); clear hb hbox hg; have hnb37 := NB436_417.out; have hnc37 := NB417_436.out; obtain ⟨⟨_, _, _, _, _, _⟩, _, _, _, _, _, _⟩ := z6 BK436; obtain ⟨Ao39, co39, eo39⟩ := Kd.R_slice HO428.out; subst eo39; obtain ⟨Ao40, co40, eo40⟩ := Kd.R_slice HO431.out; subst eo40; obtain ⟨Ao41, co41, eo41⟩ := Kd.R_slice HO434.out; subst eo41))
         go_ret2
         exact ⟨oE, oB⟩
       ·simp only [Option.some.injEq, Prod.mk.injEq] at H
        obtain ⟨rfl, rfl⟩ := H
        have p422 : (0 ≤ (x22_1 : Int)) = True := oT
        have q422 : (x22_1 < (t418.length : Int)) = True := oT
        obtain ⟨ad422, e422, hx422_0⟩ := Kd.at_string (Kd.Q_reads' HO_20.out).2.2 x22_1 oa oa
        cases e422
        obtain ⟨⟨_, _⟩, _, _⟩ := z2 BK417
        go_wp2_with (first | ((with_reducible refine gate_callee (f := 67) rfl ?_); refine gl_ 29 Tryd.func67 (impl_InodeAt.calls k1 _ _ l0_0 a0_1 x8_1 t423 t424 t425 t426 t429 t432 false _ (kC HR0_0) HC0_0.out A11.out) ?_; rintro e w43 ⟨v427, v430, v433, rfl, ho0, ho1, ho2, hb⟩; refine ⟨_, rfl, ?_⟩; have HO428 := Aside0.mk (Kd.R_lower ho0 (below_size oB)); have HO431 := Aside0.mk (Kd.R_lower ho1 (below_size oB)); have HO434 := Aside0.mk (Kd.R_lower ho2 (below_size oB)); replace HO_20 := Aside0.mk (Kd.Q_below (by (with_reducible repeat (first | apply Kd.Q_alloc | apply Kd.Q_drewN | apply Kd.Q_drew)); exact HO_20.out) hb); replace BK417 := kb_ BK417 hb; replace HB := Aside0.mk (below_step oB hb); (try clear ho1); (try clear ho2)) | ((with_reducible refine gate_dst (N := 11) rfl ?_); refine bx_ 11 #[.int .i64 0, .int .i64 0, .int .i64 0, .slice none 0 0, .slice none 0 0, .slice none 0 0] 64 ?_; intro gb436 hg w44 hbox hb; have BK436 := Aside0.mk (hbox); have GW436 := gs_ hg; have GE436 := gs_ hg; have NB417_436 := nl_ hg BK417; have NB436_417 := nr_ hg BK417; replace HO_20 := Aside0.mk (Kd.Q_below (by (with_reducible repeat (first | apply Kd.Q_alloc | apply Kd.Q_drewN | apply Kd.Q_drew)); exact HO_20.out) hb); replace HO428 := kr_ HO428 hb; replace HO431 := kr_ HO431 hb; replace HO434 := kr_ HO434 hb; replace BK417 := kb_ BK417 hb; replace HB := Aside0.mk (below_step oB hb); clear hb hbox hg; have hnb45 := NB436_417.out; have hnc45 := NB417_436.out; obtain ⟨⟨_, _, _, _, _, _⟩, _, _, _, _, _, _⟩ := z6 BK436; obtain ⟨Ao47, co47, eo47⟩ := Kd.R_slice HO428.out; subst eo47; obtain ⟨Ao48, co48, eo48⟩ := Kd.R_slice HO431.out; subst eo48; obtain ⟨Ao49, co49, eo49⟩ := Kd.R_slice HO434.out; subst eo49))
        go_ret2
        exact ⟨oE, oB⟩
      ·cases H
     ·cases H
    ·simp only [Option.some.injEq, Prod.mk.injEq] at H
     obtain ⟨rfl, rfl⟩ := H
     go_wp2
     go_ret2
     exact ⟨oE, oB⟩
 ·simp only [Option.some.injEq, Prod.mk.injEq] at H
  obtain ⟨rfl, rfl⟩ := H
  go_enter Tryd.func35, Tryd.ntmps35
  go_wp2_with (first | ((with_reducible refine gate_dst (N := 2) rfl ?_); refine bx_ 2 #[.slice A0_0 l0_0.length c0_0, .int .i64 a0_1] 46 ?_; intro gb417 hg w50 hbox hb; have BK417 := Aside0.mk (hbox); have GW417 := gs_ hg; have GE417 := gs_ hg; replace HB := Aside0.mk (below_step oB hb); clear hb hbox hg) | ((with_reducible refine gate_callee (f := 17) rfl ?_); refine gl_ 15 Tryd.func17 (impl_SplitPath.calls k a1 t418 false _ A3.out) ?_; rintro e w51 ⟨v420, rfl, ho0, hb⟩; refine ⟨_, rfl, ?_⟩; have HO421 := Aside0.mk (Kd.Q_lower ho0 (below_size oB)); replace BK417 := kb_ BK417 hb; replace HB := Aside0.mk (below_step oB hb)))
  go_ret2
  exact ⟨oE, oB⟩

/-! ### impl_Stat: function 48 -/
def impl_Stat.f (k : Nat) (l0_0 : List (S64)) (a0_1 : Int) (a1 : ByteArray) : Option (Int × Int × Int × List Int × (List (S91)) × (List (S87)) × Int) := (impl_Walk.f k l0_0 a0_1 a1).bind fun bt440 => (if bt440.2 = 0 then ((impl_InodeAt.f k l0_0 a0_1 bt440.1).bind fun bt442 => (if bt442.2.2.2.2.2.2 = true then (some (bt442.1, bt442.2.1, bt442.2.2.1, bt442.2.2.2.1, bt442.2.2.2.2.1, bt442.2.2.2.2.2.1, 0)) else (some (0, 0, 0, ([] : List Int), ([] : List (S91)), ([] : List (S87)), 2)))) else (some (0, 0, 0, ([] : List Int), ([] : List (S91)), ([] : List (S87)), bt440.2)))
set_option maxHeartbeats 8000000 in
set_option maxRecDepth 100000 in
theorem impl_Stat.calls (k : Nat) (A0_0 : Option Addr) (c0_0 : Nat) (l0_0 : List (S64)) (a0_1 : Int) (a1 : ByteArray) (r1 : Int) (r2 : Int) (r3 : Int) (r4 : List Int) (r5 : List (S91)) (r6 : List (S87)) (r7 : Int) (w : World) (hr0_0 : Kd.C k64 w A0_0 l0_0.length l0_0) (hc0_0 : l0_0.length ≤ c0_0) (h : impl_Stat.f k l0_0 a0_1 a1 = some (r1, r2, r3, r4, r5, r6, r7)) (hG : GOk w := by exact gk_ oB (by first | (with_reducible assumption) | assumption)) :
  Calls Tryd.prog 48 #[.agg #[.slice A0_0 l0_0.length c0_0, .int .i64 a0_1], .string a1] w fun e w' => ∃ v3_ v4_ v5_ : Value, e = .returned (.tuple #[.agg #[.int .i64 r1, .int .i64 r2, .int .i64 r3, v3_, v4_, v5_], .int .i64 r7]) ∧ Kd.R (Kd.int .u8) 5 w' w.heap.size (fun _ => True) v3_ r4 ∧ Kd.R k91 91 w' w.heap.size (fun _ => True) v4_ r5 ∧ Kd.R k87 87 w' w.heap.size (fun _ => True) v5_ r6 ∧ Below w.heap.size w w' := by
 have HG := Aside0.mk hG
 clear hG
 have hu46 := Tryd.underlying46
 have hu64 := Tryd.underlying64
 have HR0_0 := Aside0.mk hr0_0
 have HC0_0 := Aside0.mk hc0_0
 clear hr0_0 hc0_0
 have HB := Aside0.mk (Below.refl w.heap.size w)
 unfold impl_Stat.f at h
 have H := h
 clear h
 replace H := bA H
 obtain ⟨⟨t440, t441⟩, A3, H⟩ := H
 try dsimp only at H
 by_cases c4 : t441 = 0
 ·rw [if_pos c4] at H
  have c4b0 : (t441 == 0) = true := beq_iff_eq.mpr c4
  have c4b1 : (t441 != 0) = false := bne_eq_false_iff_eq.mpr c4
  clear c4
  replace H := bA H
  obtain ⟨⟨t442, t443, t444, t445, t448, t451, t454⟩, A5, H⟩ := H
  try dsimp only at H
  replace H := itB H
  rcases H with ⟨rfl, H⟩ | ⟨rfl, H⟩
  ·simp only [Option.some.injEq, Prod.mk.injEq] at H
   obtain ⟨rfl, rfl, rfl, rfl, rfl, rfl, rfl⟩ := H
   go_enter Tryd.func48, Tryd.ntmps48
   go_wp2_with (first | ((with_reducible refine gate_dst (N := 2) rfl ?_); refine bx_ 2 #[.slice A0_0 l0_0.length c0_0, .int .i64 a0_1] 46 ?_; intro gb438 hg w7 hbox hb; have BK438 := Aside0.mk (hbox); have GW438 := gs_ hg; have GE438 := gs_ hg; replace HB := Aside0.mk (below_step oB hb); clear hb hbox hg) | ((with_reducible refine gate_dst (N := 4) rfl ?_); refine bx_ 4 #[.int .i64 0, .int .i64 0, .int .i64 0, .slice none 0 0, .slice none 0 0, .slice none 0 0] 64 ?_; intro gb439 hg w8 hbox hb; have BK439 := Aside0.mk (hbox); have GW439 := gs_ hg; have GE439 := gs_ hg; have NB438_439 := nl_ hg BK438; have NB439_438 := nr_ hg BK438; replace BK438 := kb_ BK438 hb; replace HB := Aside0.mk (below_step oB hb); clear hb hbox hg; have hnb9 := NB438_439.out; have hnc9 := NB439_438.out; obtain ⟨⟨_, _⟩, _, _⟩ := z2 BK438) | ((with_reducible refine gate_callee (f := 35) rfl ?_); refine gl_ 13 Tryd.func35 (impl_Walk.calls k _ _ l0_0 a0_1 a1 t440 t441 _ (kC HR0_0) HC0_0.out A3.out) ?_; rintro e w11 ⟨rfl, hb⟩; refine ⟨_, rfl, ?_⟩; replace BK438 := kb_ BK438 hb; replace BK439 := kb_ BK439 hb; replace HB := Aside0.mk (below_step oB hb); obtain ⟨⟨_, _⟩, _, _⟩ := z2 BK438) | ((with_reducible refine gate_callee (f := 67) rfl ?_); refine gl_ 23 Tryd.func67 (impl_InodeAt.calls k _ _ l0_0 a0_1 t440 t442 t443 t444 t445 t448 t451 true _ (kC HR0_0) HC0_0.out A5.out) ?_; rintro e w13 ⟨v446, v449, v452, rfl, ho0, ho1, ho2, hb⟩; refine ⟨_, rfl, ?_⟩; have HO447 := Aside0.mk (Kd.R_lower ho0 (below_size oB)); have HO450 := Aside0.mk (Kd.R_lower ho1 (below_size oB)); have HO453 := Aside0.mk (Kd.R_lower ho2 (below_size oB)); replace BK438 := kb_ BK438 hb; replace BK439 := kb_ BK439 hb; replace HB := Aside0.mk (below_step oB hb); (try clear ho1); (try clear ho2)) | ((with_reducible refine gate_dst (N := 8) rfl ?_); refine bx_ 8 #[.int .i64 0, .int .i64 0, .int .i64 0, .slice none 0 0, .slice none 0 0, .slice none 0 0] 64 ?_; intro gb455 hg w14 hbox hb; have BK455 := Aside0.mk (hbox); have GW455 := gs_ hg; have GE455 := gs_ hg; have NB438_455 := nl_ hg BK438; have NB455_438 := nr_ hg BK438; have NB439_455 := nl_ hg BK439; have NB455_439 := nr_ hg BK439; replace HO447 := kr_ HO447 hb; replace HO450 := kr_ HO450 hb; replace HO453 := kr_ HO453 hb; replace BK438 := kb_ BK438 hb; replace BK439 := kb_ BK439 hb; replace HB := Aside0.mk (below_step oB hb); clear hb hbox hg; have hnb15 := NB455_438.out; have hnc15 := NB438_455.out; have hnb16 := NB455_439.out; have hnc16 := NB439_455.out; obtain ⟨⟨_, _, _, _, _, _⟩, _, _, _, _, _, _⟩ := z6 BK455; obtain ⟨Ao18, co18, eo18⟩ := Kd.R_slice HO447.out; subst eo18; obtain ⟨Ao19, co19, eo19⟩ := Kd.R_slice HO450.out; subst eo19; obtain ⟨Ao20, co20, eo20⟩ := Kd.R_slice HO453.out; subst eo20; obtain ⟨⟨_, _, _, _, _, _⟩, _, _, _, _, _, _⟩ := z6 BK439))
   refine bodyPost_ret (results_ct rfl _ _ gb439 64 #[.int .i64 t442, .int .i64 t443, .int .i64 t444, .slice Ao18 t445.length co18, .slice Ao19 t448.length co19, .slice Ao20 t451.length co20] (0, 0) _ rfl (by (with_reducible repeat (first | refine blk_drewN ?_ _ | refine blk_drew ?_ | refine blk_alloc ?_ _)); refine blk_put (cs := #[.int .i64 t442, .int .i64 t443, .int .i64 t444, .slice Ao18 t445.length co18, .slice Ao19 t448.length co19, .slice none 0 0]) ?_ 5 _ rfl; (with_reducible repeat (first | refine blk_drewN ?_ _ | refine blk_drew ?_ | refine blk_alloc ?_ _)); refine blk_put (cs := #[.int .i64 t442, .int .i64 t443, .int .i64 t444, .slice Ao18 t445.length co18, .slice none 0 0, .slice none 0 0]) ?_ 4 _ rfl; (with_reducible repeat (first | refine blk_drewN ?_ _ | refine blk_drew ?_ | refine blk_alloc ?_ _)); refine blk_put (cs := #[.int .i64 t442, .int .i64 t443, .int .i64 t444, .slice none 0 0, .slice none 0 0, .slice none 0 0]) ?_ 3 _ rfl; (with_reducible repeat (first | refine blk_drewN ?_ _ | refine blk_drew ?_ | refine blk_alloc ?_ _)); refine blk_put (cs := #[.int .i64 t442, .int .i64 t443, .int .i64 0, .slice none 0 0, .slice none 0 0, .slice none 0 0]) ?_ 2 _ rfl; (with_reducible repeat (first | refine blk_drewN ?_ _ | refine blk_drew ?_ | refine blk_alloc ?_ _)); refine blk_put (cs := #[.int .i64 t442, .int .i64 0, .int .i64 0, .slice none 0 0, .slice none 0 0, .slice none 0 0]) ?_ 1 _ rfl; (with_reducible repeat (first | refine blk_drewN ?_ _ | refine blk_drew ?_ | refine blk_alloc ?_ _)); refine blk_put (cs := #[.int .i64 0, .int .i64 0, .int .i64 0, .slice none 0 0, .slice none 0 0, .slice none 0 0]) ?_ 0 _ rfl; (with_reducible repeat (first | refine blk_drewN ?_ _ | refine blk_drew ?_ | refine blk_alloc ?_ _)); refine blk_far ?_ NB439_455.out _; (with_reducible repeat (first | refine blk_drewN ?_ _ | refine blk_drew ?_ | refine blk_alloc ?_ _)); refine blk_far ?_ NB439_455.out _; (with_reducible repeat (first | refine blk_drewN ?_ _ | refine blk_drew ?_ | refine blk_alloc ?_ _)); refine blk_far ?_ NB439_455.out _; (with_reducible repeat (first | refine blk_drewN ?_ _ | refine blk_drew ?_ | refine blk_alloc ?_ _)); refine blk_far ?_ NB439_455.out _; (with_reducible repeat (first | refine blk_drewN ?_ _ | refine blk_drew ?_ | refine blk_alloc ?_ _)); refine blk_far ?_ NB439_455.out _; (with_reducible repeat (first | refine blk_drewN ?_ _ | refine blk_drew ?_ | refine blk_alloc ?_ _)); refine blk_far ?_ NB439_455.out _; (with_reducible repeat (first | refine blk_drewN ?_ _ | refine blk_drew ?_ | refine blk_alloc ?_ _)); exact BK439.out) Tryd.underlying64 rfl (by kernel_rfl)) rfl ?_
   exact ⟨_, _, _, oE, by (with_reducible repeat (first | apply Kd.R_alloc | apply Kd.R_drewN | apply Kd.R_drew)); exact Kd.R_mono (Kd.R_far (p := ⟨gb439, 5, none⟩) (Kd.R_far (p := ⟨gb439, 4, none⟩) (Kd.R_far (p := ⟨gb439, 3, none⟩) (Kd.R_far (p := ⟨gb439, 2, none⟩) (Kd.R_far (p := ⟨gb439, 1, none⟩) (Kd.R_far (p := ⟨gb439, 0, none⟩) (Kd.R_far (p := ⟨gb455, 5, none⟩) (Kd.R_far (p := ⟨gb455, 4, none⟩) (Kd.R_far (p := ⟨gb455, 3, none⟩) (Kd.R_far (p := ⟨gb455, 2, none⟩) (Kd.R_far (p := ⟨gb455, 1, none⟩) (Kd.R_far (p := ⟨gb455, 0, none⟩) (Kd.R_types (Kd.R_types HO447.out BK455.out (by decide)) BK439.out (by decide)) (fun _ hk => hk.1.2) (.int .i64 t442)) (fun _ hk => hk.1.2) (.int .i64 t443)) (fun _ hk => hk.1.2) (.int .i64 t444)) (fun _ hk => hk.1.2) (.slice Ao18 t445.length co18)) (fun _ hk => hk.1.2) (.slice Ao19 t448.length co19)) (fun _ hk => hk.1.2) (.slice Ao20 t451.length co20)) (fun _ hk => hk.2) (.int .i64 t442)) (fun _ hk => hk.2) (.int .i64 t443)) (fun _ hk => hk.2) (.int .i64 t444)) (fun _ hk => hk.2) (.slice Ao18 t445.length co18)) (fun _ hk => hk.2) (.slice Ao19 t448.length co19)) (fun _ hk => hk.2) (.slice Ao20 t451.length co20)) (fun _ hk => trivial), by (with_reducible repeat (first | apply Kd.R_alloc | apply Kd.R_drewN | apply Kd.R_drew)); exact Kd.R_mono (Kd.R_far (p := ⟨gb439, 5, none⟩) (Kd.R_far (p := ⟨gb439, 4, none⟩) (Kd.R_far (p := ⟨gb439, 3, none⟩) (Kd.R_far (p := ⟨gb439, 2, none⟩) (Kd.R_far (p := ⟨gb439, 1, none⟩) (Kd.R_far (p := ⟨gb439, 0, none⟩) (Kd.R_far (p := ⟨gb455, 5, none⟩) (Kd.R_far (p := ⟨gb455, 4, none⟩) (Kd.R_far (p := ⟨gb455, 3, none⟩) (Kd.R_far (p := ⟨gb455, 2, none⟩) (Kd.R_far (p := ⟨gb455, 1, none⟩) (Kd.R_far (p := ⟨gb455, 0, none⟩) (Kd.R_types (Kd.R_types HO450.out BK455.out (by decide)) BK439.out (by decide)) (fun _ hk => hk.1.2) (.int .i64 t442)) (fun _ hk => hk.1.2) (.int .i64 t443)) (fun _ hk => hk.1.2) (.int .i64 t444)) (fun _ hk => hk.1.2) (.slice Ao18 t445.length co18)) (fun _ hk => hk.1.2) (.slice Ao19 t448.length co19)) (fun _ hk => hk.1.2) (.slice Ao20 t451.length co20)) (fun _ hk => hk.2) (.int .i64 t442)) (fun _ hk => hk.2) (.int .i64 t443)) (fun _ hk => hk.2) (.int .i64 t444)) (fun _ hk => hk.2) (.slice Ao18 t445.length co18)) (fun _ hk => hk.2) (.slice Ao19 t448.length co19)) (fun _ hk => hk.2) (.slice Ao20 t451.length co20)) (fun _ hk => trivial), by (with_reducible repeat (first | apply Kd.R_alloc | apply Kd.R_drewN | apply Kd.R_drew)); exact Kd.R_mono (Kd.R_far (p := ⟨gb439, 5, none⟩) (Kd.R_far (p := ⟨gb439, 4, none⟩) (Kd.R_far (p := ⟨gb439, 3, none⟩) (Kd.R_far (p := ⟨gb439, 2, none⟩) (Kd.R_far (p := ⟨gb439, 1, none⟩) (Kd.R_far (p := ⟨gb439, 0, none⟩) (Kd.R_far (p := ⟨gb455, 5, none⟩) (Kd.R_far (p := ⟨gb455, 4, none⟩) (Kd.R_far (p := ⟨gb455, 3, none⟩) (Kd.R_far (p := ⟨gb455, 2, none⟩) (Kd.R_far (p := ⟨gb455, 1, none⟩) (Kd.R_far (p := ⟨gb455, 0, none⟩) (Kd.R_types (Kd.R_types HO453.out BK455.out (by decide)) BK439.out (by decide)) (fun _ hk => hk.1.2) (.int .i64 t442)) (fun _ hk => hk.1.2) (.int .i64 t443)) (fun _ hk => hk.1.2) (.int .i64 t444)) (fun _ hk => hk.1.2) (.slice Ao18 t445.length co18)) (fun _ hk => hk.1.2) (.slice Ao19 t448.length co19)) (fun _ hk => hk.1.2) (.slice Ao20 t451.length co20)) (fun _ hk => hk.2) (.int .i64 t442)) (fun _ hk => hk.2) (.int .i64 t443)) (fun _ hk => hk.2) (.int .i64 t444)) (fun _ hk => hk.2) (.slice Ao18 t445.length co18)) (fun _ hk => hk.2) (.slice Ao19 t448.length co19)) (fun _ hk => hk.2) (.slice Ao20 t451.length co20)) (fun _ hk => trivial), oB⟩
  ·simp only [Option.some.injEq, Prod.mk.injEq] at H
   obtain ⟨rfl, rfl, rfl, rfl, rfl, rfl, rfl⟩ := H
   go_enter Tryd.func48, Tryd.ntmps48
   go_wp2_with (first | ((with_reducible refine gate_dst (N := 2) rfl ?_); refine bx_ 2 #[.slice A0_0 l0_0.length c0_0, .int .i64 a0_1] 46 ?_; intro gb438 hg w22 hbox hb; have BK438 := Aside0.mk (hbox); have GW438 := gs_ hg; have GE438 := gs_ hg; replace HB := Aside0.mk (below_step oB hb); clear hb hbox hg) | ((with_reducible refine gate_dst (N := 4) rfl ?_); refine bx_ 4 #[.int .i64 0, .int .i64 0, .int .i64 0, .slice none 0 0, .slice none 0 0, .slice none 0 0] 64 ?_; intro gb439 hg w23 hbox hb; have BK439 := Aside0.mk (hbox); have GW439 := gs_ hg; have GE439 := gs_ hg; have NB438_439 := nl_ hg BK438; have NB439_438 := nr_ hg BK438; replace BK438 := kb_ BK438 hb; replace HB := Aside0.mk (below_step oB hb); clear hb hbox hg; have hnb24 := NB438_439.out; have hnc24 := NB439_438.out; obtain ⟨⟨_, _⟩, _, _⟩ := z2 BK438) | ((with_reducible refine gate_callee (f := 35) rfl ?_); refine gl_ 13 Tryd.func35 (impl_Walk.calls k _ _ l0_0 a0_1 a1 t440 t441 _ (kC HR0_0) HC0_0.out A3.out) ?_; rintro e w26 ⟨rfl, hb⟩; refine ⟨_, rfl, ?_⟩; replace BK438 := kb_ BK438 hb; replace BK439 := kb_ BK439 hb; replace HB := Aside0.mk (below_step oB hb); obtain ⟨⟨_, _⟩, _, _⟩ := z2 BK438) | ((with_reducible refine gate_callee (f := 67) rfl ?_); refine gl_ 23 Tryd.func67 (impl_InodeAt.calls k _ _ l0_0 a0_1 t440 t442 t443 t444 t445 t448 t451 false _ (kC HR0_0) HC0_0.out A5.out) ?_; rintro e w28 ⟨v446, v449, v452, rfl, ho0, ho1, ho2, hb⟩; refine ⟨_, rfl, ?_⟩; have HO447 := Aside0.mk (Kd.R_lower ho0 (below_size oB)); have HO450 := Aside0.mk (Kd.R_lower ho1 (below_size oB)); have HO453 := Aside0.mk (Kd.R_lower ho2 (below_size oB)); replace BK438 := kb_ BK438 hb; replace BK439 := kb_ BK439 hb; replace HB := Aside0.mk (below_step oB hb); (try clear ho1); (try clear ho2)) | ((with_reducible refine gate_dst (N := 8) rfl ?_); refine bx_ 8 #[.int .i64 0, .int .i64 0, .int .i64 0, .slice none 0 0, .slice none 0 0, .slice none 0 0] 64 ?_; intro gb455 hg w29 hbox hb; have BK455 := Aside0.mk (hbox); have GW455 := gs_ hg; have GE455 := gs_ hg; have NB438_455 := nl_ hg BK438; have NB455_438 := nr_ hg BK438; have NB439_455 := nl_ hg BK439; have NB455_439 := nr_ hg BK439; replace HO447 := kr_ HO447 hb; replace HO450 := kr_ HO450 hb; replace HO453 := kr_ HO453 hb; replace BK438 := kb_ BK438 hb; replace BK439 := kb_ BK439 hb; replace HB := Aside0.mk (below_step oB hb); clear hb hbox hg; have hnb30 := NB455_438.out; have hnc30 := NB438_455.out; have hnb31 := NB455_439.out; have hnc31 := NB439_455.out; obtain ⟨⟨_, _, _, _, _, _⟩, _, _, _, _, _, _⟩ := z6 BK455; obtain ⟨Ao33, co33, eo33⟩ := Kd.R_slice HO447.out; subst eo33; obtain ⟨Ao34, co34, eo34⟩ := Kd.R_slice HO450.out; subst eo34; obtain ⟨Ao35, co35, eo35⟩ := Kd.R_slice HO453.out; subst eo35; obtain ⟨⟨_, _, _, _, _, _⟩, _, _, _, _, _, _⟩ := z6 BK439))
   refine bodyPost_ret (results_ct rfl _ _ gb439 64 #[.int .i64 0, .int .i64 0, .int .i64 0, .slice none 0 0, .slice none 0 0, .slice none 0 0] (0, 0) _ rfl (by (with_reducible repeat (first | refine blk_drewN ?_ _ | refine blk_drew ?_ | refine blk_alloc ?_ _)); refine blk_put (cs := #[.int .i64 0, .int .i64 0, .int .i64 0, .slice none 0 0, .slice none 0 0, .slice none 0 0]) ?_ 5 _ rfl; (with_reducible repeat (first | refine blk_drewN ?_ _ | refine blk_drew ?_ | refine blk_alloc ?_ _)); refine blk_put (cs := #[.int .i64 0, .int .i64 0, .int .i64 0, .slice none 0 0, .slice none 0 0, .slice none 0 0]) ?_ 4 _ rfl; (with_reducible repeat (first | refine blk_drewN ?_ _ | refine blk_drew ?_ | refine blk_alloc ?_ _)); refine blk_put (cs := #[.int .i64 0, .int .i64 0, .int .i64 0, .slice none 0 0, .slice none 0 0, .slice none 0 0]) ?_ 3 _ rfl; (with_reducible repeat (first | refine blk_drewN ?_ _ | refine blk_drew ?_ | refine blk_alloc ?_ _)); refine blk_put (cs := #[.int .i64 0, .int .i64 0, .int .i64 0, .slice none 0 0, .slice none 0 0, .slice none 0 0]) ?_ 2 _ rfl; (with_reducible repeat (first | refine blk_drewN ?_ _ | refine blk_drew ?_ | refine blk_alloc ?_ _)); refine blk_put (cs := #[.int .i64 0, .int .i64 0, .int .i64 0, .slice none 0 0, .slice none 0 0, .slice none 0 0]) ?_ 1 _ rfl; (with_reducible repeat (first | refine blk_drewN ?_ _ | refine blk_drew ?_ | refine blk_alloc ?_ _)); refine blk_put (cs := #[.int .i64 0, .int .i64 0, .int .i64 0, .slice none 0 0, .slice none 0 0, .slice none 0 0]) ?_ 0 _ rfl; (with_reducible repeat (first | refine blk_drewN ?_ _ | refine blk_drew ?_ | refine blk_alloc ?_ _)); refine blk_far ?_ NB439_455.out _; (with_reducible repeat (first | refine blk_drewN ?_ _ | refine blk_drew ?_ | refine blk_alloc ?_ _)); refine blk_far ?_ NB439_455.out _; (with_reducible repeat (first | refine blk_drewN ?_ _ | refine blk_drew ?_ | refine blk_alloc ?_ _)); refine blk_far ?_ NB439_455.out _; (with_reducible repeat (first | refine blk_drewN ?_ _ | refine blk_drew ?_ | refine blk_alloc ?_ _)); refine blk_far ?_ NB439_455.out _; (with_reducible repeat (first | refine blk_drewN ?_ _ | refine blk_drew ?_ | refine blk_alloc ?_ _)); refine blk_far ?_ NB439_455.out _; (with_reducible repeat (first | refine blk_drewN ?_ _ | refine blk_drew ?_ | refine blk_alloc ?_ _)); refine blk_far ?_ NB439_455.out _; (with_reducible repeat (first | refine blk_drewN ?_ _ | refine blk_drew ?_ | refine blk_alloc ?_ _)); exact BK439.out) Tryd.underlying64 rfl (by kernel_rfl)) rfl ?_
   exact ⟨_, _, _, oE, by first | exact Kd.R_nil _ _ _ _ _ | exact Kd.N_nil _ _ _ _ _ | exact Kd.V_nil _ _ _ _ _ | exact Kd.Q_nil _ _ _ _ _ | exact Kd.S_nil _ _ _ _ _, by first | exact Kd.R_nil _ _ _ _ _ | exact Kd.N_nil _ _ _ _ _ | exact Kd.V_nil _ _ _ _ _ | exact Kd.Q_nil _ _ _ _ _ | exact Kd.S_nil _ _ _ _ _, by first | exact Kd.R_nil _ _ _ _ _ | exact Kd.N_nil _ _ _ _ _ | exact Kd.V_nil _ _ _ _ _ | exact Kd.Q_nil _ _ _ _ _ | exact Kd.S_nil _ _ _ _ _, oB⟩
 ·rw [if_neg c4] at H
  have c4b0 : (t441 == 0) = false := beq_eq_false_iff_ne.mpr c4
  have c4b1 : (t441 != 0) = true := bne_iff_ne.mpr c4
  simp only [Option.some.injEq, Prod.mk.injEq] at H
  obtain ⟨rfl, rfl, rfl, rfl, rfl, rfl, rfl⟩ := H
  go_enter Tryd.func48, Tryd.ntmps48
  go_wp2_with (first | ((with_reducible refine gate_dst (N := 2) rfl ?_); refine bx_ 2 #[.slice A0_0 l0_0.length c0_0, .int .i64 a0_1] 46 ?_; intro gb438 hg w37 hbox hb; have BK438 := Aside0.mk (hbox); have GW438 := gs_ hg; have GE438 := gs_ hg; replace HB := Aside0.mk (below_step oB hb); clear hb hbox hg) | ((with_reducible refine gate_dst (N := 4) rfl ?_); refine bx_ 4 #[.int .i64 0, .int .i64 0, .int .i64 0, .slice none 0 0, .slice none 0 0, .slice none 0 0] 64 ?_; intro gb439 hg w38 hbox hb; have BK439 := Aside0.mk (hbox); have GW439 := gs_ hg; have GE439 := gs_ hg; have NB438_439 := nl_ hg BK438; have NB439_438 := nr_ hg BK438; replace BK438 := kb_ BK438 hb; replace HB := Aside0.mk (below_step oB hb); clear hb hbox hg; have hnb39 := NB438_439.out; have hnc39 := NB439_438.out; obtain ⟨⟨_, _⟩, _, _⟩ := z2 BK438) | ((with_reducible refine gate_callee (f := 35) rfl ?_); refine gl_ 13 Tryd.func35 (impl_Walk.calls k _ _ l0_0 a0_1 a1 t440 t441 _ (kC HR0_0) HC0_0.out A3.out) ?_; rintro e w41 ⟨rfl, hb⟩; refine ⟨_, rfl, ?_⟩; replace BK438 := kb_ BK438 hb; replace BK439 := kb_ BK439 hb; replace HB := Aside0.mk (below_step oB hb); obtain ⟨⟨_, _, _, _, _, _⟩, _, _, _, _, _, _⟩ := z6 BK439))
  refine bodyPost_ret (results_ct rfl _ _ gb439 64 #[.int .i64 0, .int .i64 0, .int .i64 0, .slice none 0 0, .slice none 0 0, .slice none 0 0] (0, 0) _ rfl (by (with_reducible repeat (first | refine blk_drewN ?_ _ | refine blk_drew ?_ | refine blk_alloc ?_ _)); refine blk_put (cs := #[.int .i64 0, .int .i64 0, .int .i64 0, .slice none 0 0, .slice none 0 0, .slice none 0 0]) ?_ 5 _ rfl; (with_reducible repeat (first | refine blk_drewN ?_ _ | refine blk_drew ?_ | refine blk_alloc ?_ _)); refine blk_put (cs := #[.int .i64 0, .int .i64 0, .int .i64 0, .slice none 0 0, .slice none 0 0, .slice none 0 0]) ?_ 4 _ rfl; (with_reducible repeat (first | refine blk_drewN ?_ _ | refine blk_drew ?_ | refine blk_alloc ?_ _)); refine blk_put (cs := #[.int .i64 0, .int .i64 0, .int .i64 0, .slice none 0 0, .slice none 0 0, .slice none 0 0]) ?_ 3 _ rfl; (with_reducible repeat (first | refine blk_drewN ?_ _ | refine blk_drew ?_ | refine blk_alloc ?_ _)); refine blk_put (cs := #[.int .i64 0, .int .i64 0, .int .i64 0, .slice none 0 0, .slice none 0 0, .slice none 0 0]) ?_ 2 _ rfl; (with_reducible repeat (first | refine blk_drewN ?_ _ | refine blk_drew ?_ | refine blk_alloc ?_ _)); refine blk_put (cs := #[.int .i64 0, .int .i64 0, .int .i64 0, .slice none 0 0, .slice none 0 0, .slice none 0 0]) ?_ 1 _ rfl; (with_reducible repeat (first | refine blk_drewN ?_ _ | refine blk_drew ?_ | refine blk_alloc ?_ _)); refine blk_put (cs := #[.int .i64 0, .int .i64 0, .int .i64 0, .slice none 0 0, .slice none 0 0, .slice none 0 0]) ?_ 0 _ rfl; (with_reducible repeat (first | refine blk_drewN ?_ _ | refine blk_drew ?_ | refine blk_alloc ?_ _)); exact BK439.out) Tryd.underlying64 rfl (by kernel_rfl)) rfl ?_
  exact ⟨_, _, _, oE, by first | exact Kd.R_nil _ _ _ _ _ | exact Kd.N_nil _ _ _ _ _ | exact Kd.V_nil _ _ _ _ _ | exact Kd.Q_nil _ _ _ _ _ | exact Kd.S_nil _ _ _ _ _, by first | exact Kd.R_nil _ _ _ _ _ | exact Kd.N_nil _ _ _ _ _ | exact Kd.V_nil _ _ _ _ _ | exact Kd.Q_nil _ _ _ _ _ | exact Kd.S_nil _ _ _ _ _, by first | exact Kd.R_nil _ _ _ _ _ | exact Kd.N_nil _ _ _ _ _ | exact Kd.V_nil _ _ _ _ _ | exact Kd.Q_nil _ _ _ _ _ | exact Kd.S_nil _ _ _ _ _, oB⟩

/-! ### impl_ReadFile: function 40 -/
def impl_ReadFile.j0 : Nat → ByteArray → Int → Int → Bool → List (S64) → Int → Option (List Int × Int)
 | 0, _, _, _, _, _, _ => none
 | k + 1, x1, x2, x3, x18, x457000, x457001 => if x18 = true then (some (([] : List Int), 1)) else ((impl_Stat.f k x457000 x457001 x1).bind fun bt457 => (if bt457.2.2.2.2.2.2 = 0 then (if bt457.2.1 = 1 then (if 0 ≤ (mn x2 (bt457.2.2.2.1.length : Int)) then (if (mn x2 (bt457.2.2.2.1.length : Int)) ≤ (bt457.2.2.2.1.length : Int) then ((some (bt457.2.2.2.1.drop ((mn x2 (bt457.2.2.2.1.length : Int)) : Int).toNat : List Int)).bind fun y471 => (if 0 ≤ (mn x3 (y471.length : Int)) then (if (mn x3 (y471.length : Int)) ≤ (y471.length : Int) then ((slices_Clone_byte_byte.f (y471.take ((mn x3 (y471.length : Int)) : Int).toNat)).bind fun t479 => (some (t479, 0))) else (none)) else (none))) else (none)) else (none)) else (some (([] : List Int), 3))) else (some (([] : List Int), bt457.2.2.2.2.2.2))))
def impl_ReadFile.f (k : Nat) (l0_0 : List (S64)) (a0_1 : Int) (a1 : ByteArray) (a2 : Int) (a3 : Int) : Option (List Int × Int) := if a2 < 0 then (impl_ReadFile.j0 k a1 a2 a3 true l0_0 a0_1) else (impl_ReadFile.j0 k a1 a2 a3 (decide (a3 < 0)) l0_0 a0_1)
set_option maxHeartbeats 8000000 in
set_option maxRecDepth 100000 in
theorem impl_ReadFile.calls (k : Nat) (A0_0 : Option Addr) (c0_0 : Nat) (l0_0 : List (S64)) (a0_1 : Int) (a1 : ByteArray) (a2 : Int) (a3 : Int) (r1 : List Int) (r2 : Int) (w : World) (hr0_0 : Kd.C k64 w A0_0 l0_0.length l0_0) (hc0_0 : l0_0.length ≤ c0_0) (h : impl_ReadFile.f k l0_0 a0_1 a1 a2 a3 = some (r1, r2)) (hG : GOk w := by exact gk_ oB (by first | (with_reducible assumption) | assumption)) :
  Calls Tryd.prog 40 #[.agg #[.slice A0_0 l0_0.length c0_0, .int .i64 a0_1], .string a1, .int .i64 a2, .int .i64 a3] w fun e w' => ∃ v0_ : Value, e = .returned (.tuple #[v0_, .int .i64 r2]) ∧ Kd.R (Kd.int .u8) 5 w' w.heap.size (fun _ => True) v0_ r1 ∧ Below w.heap.size w w' := by
 have HG := Aside0.mk hG
 clear hG
 have hu46 := Tryd.underlying46
 have hu64 := Tryd.underlying64
 have HR0_0 := Aside0.mk hr0_0
 have HC0_0 := Aside0.mk hc0_0
 clear hr0_0 hc0_0
 have HB := Aside0.mk (Below.refl w.heap.size w)
 unfold impl_ReadFile.f at h
 have H := h
 clear h
 have HC5 := Aside0.mk H
 clear H
 go_enter Tryd.func40, Tryd.ntmps40
 go_upto_region 1 with (first | ((with_reducible refine gate_dst (N := 4) rfl ?_); refine bx_ 4 #[.slice A0_0 l0_0.length c0_0, .int .i64 a0_1] 46 ?_; intro gb456 hg w6 hbox hb; have BK456 := Aside0.mk (hbox); have GW456 := gs_ hg; have GE456 := gs_ hg; replace HB := Aside0.mk (below_step oB hb); clear hb hbox hg))
 (try simp only [Act.put, List.setIfInBounds_toArray, List.set_cons_zero, List.set_cons_succ])
 go_cut [18] (fun v18 wc => ∃ (kq : Nat) (x18_4 : Bool), v18 = .bool x18_4 ∧ Aside0 (impl_ReadFile.j0 kq a1 a2 a3 x18_4 l0_0 a0_1 = some (r1, r2)) ∧ Aside0 (kq ≤ k) ∧ Aside0 (wc.heap[gb456]? = some (.cells #[(.slice A0_0 l0_0.length c0_0), .int .i64 a0_1] 46 (0, 0))) ∧ Aside0 (Below w.heap.size w wc))
 case first =>
  have H := HC5.out
  clear HC5
  replace H := itD H
  rcases H with ⟨c7b0, H⟩ | ⟨c7b0, H⟩
  ·(first | rw [c7b0] | rw [c7b2] | (simp only [i64_w, i32_w]; rw [c7b0]) | skip)
   have H' := Aside0.mk H
   clear H
   go_wp2
   go_meet
   case rel => exact ⟨_, (true), oS, H', ⟨by first | omega | exact Nat.le_refl _⟩, ⟨oF BK456⟩, ⟨oB⟩⟩
  ·(first | rw [c7b0] | rw [c7b2] | (simp only [i64_w, i32_w]; rw [c7b0]) | skip)
   have H' := Aside0.mk H
   clear H
   go_wp2
   go_meet
   case rel => exact ⟨_, (decide (a3 < 0)), oS, H', ⟨by first | omega | exact Nat.le_refl _⟩, ⟨oF BK456⟩, ⟨oB⟩⟩
 case rest =>
  clear HC5
  obtain ⟨kq, x18_4, rfl, HA, HJ4, BK456, HB⟩ := hcut
  cases kq with
  | zero => exact absurd HA.out (by simp [impl_ReadFile.j0])
  | succ kj4 =>
   have H := HA.out
   clear HA
   simp only [impl_ReadFile.j0] at H
   replace H := itB H
   rcases H with ⟨rfl, H⟩ | ⟨rfl, H⟩
   ·simp only [Option.some.injEq, Prod.mk.injEq] at H
    obtain ⟨rfl, rfl⟩ := H
    go_wp2
    go_ret2
    exact ⟨_, oE, by first | exact Kd.R_nil _ _ _ _ _ | exact Kd.N_nil _ _ _ _ _ | exact Kd.V_nil _ _ _ _ _ | exact Kd.Q_nil _ _ _ _ _ | exact Kd.S_nil _ _ _ _ _, oB⟩
   ·replace H := bA H
    obtain ⟨⟨t457, t458, t459, t460, t463, t466, t469⟩, A9, H⟩ := H
    try dsimp only at H
    by_cases c10 : t469 = 0
    ·rw [if_pos c10] at H
     have c10b0 : (t469 == 0) = true := beq_iff_eq.mpr c10
     have c10b1 : (t469 != 0) = false := bne_eq_false_iff_eq.mpr c10
     clear c10
     by_cases c11 : t458 = 1
     ·rw [if_pos c11] at H
      have c11b0 : (t458 == 1) = true := beq_iff_eq.mpr c11
      have c11b1 : (t458 != 1) = false := bne_eq_false_iff_eq.mpr c11
      clear c11
      obtain ⟨ji12, hji12⟩ : ∃ j_ : Int, (mn a2 (t460.length : Int)) = j_ := ⟨_, rfl⟩
      replace H : (if 0 ≤ (ji12) then (if (ji12) ≤ (t460.length : Int) then ((some (t460.drop ((ji12) : Int).toNat : List Int)).bind fun y471 => (if 0 ≤ (mn a3 (y471.length : Int)) then (if (mn a3 (y471.length : Int)) ≤ (y471.length : Int) then ((slices_Clone_byte_byte.f (y471.take ((mn a3 (y471.length : Int)) : Int).toNat)).bind fun t479 => (some (t479, 0))) else (none)) else (none))) else (none)) else (none)) = some (r1, r2) := by first | (rw [hji12] at H; exact H) | (simp only [hji12] at H ⊢; exact H)
      (try rw [hji12] at A9)
      have hji12_ : (if (t460.length : Int) < a2 then (t460.length : Int) else a2) = ji12 := hji12
      by_cases c13 : 0 ≤ (ji12)
      ·rw [if_pos c13] at H
       have c13b0 := eq_true c13
       have c13b1 : decide (0 ≤ (ji12)) = true := decide_eq_true c13
       clear c13
       by_cases c14 : (ji12) ≤ (t460.length : Int)
       ·rw [if_pos c14] at H
        have c14b0 := eq_true c14
        have c14b1 : decide ((ji12) ≤ (t460.length : Int)) = true := decide_eq_true c14
        clear c14
        obtain ⟨y471, hy471⟩ : ∃ y_ : List Int, y_ = (t460.drop ((ji12) : Int).toNat) := ⟨_, rfl⟩
        replace H : (if 0 ≤ (mn a3 (y471.length : Int)) then (if (mn a3 (y471.length : Int)) ≤ (y471.length : Int) then ((slices_Clone_byte_byte.f (y471.take ((mn a3 (y471.length : Int)) : Int).toNat)).bind fun t479 => (some (t479, 0))) else (none)) else (none)) = some (r1, r2) := by first | (rw [hy471]; with_reducible exact H) | (have H2_ := (Option.bind_some _ _).symm.trans H; rw [hy471]; with_reducible exact H2_) | (have H2_ := (Option.bind_some _ _).symm.trans H; with_reducible exact H2_) | with_reducible exact H | (rw [hy471]; exact H) | exact H
        have Ny471 := Aside0.mk hy471
        clear hy471
        obtain ⟨ji15, hji15⟩ : ∃ j_ : Int, (mn a3 (y471.length : Int)) = j_ := ⟨_, rfl⟩
        replace H : (if 0 ≤ (ji15) then (if (ji15) ≤ (y471.length : Int) then ((slices_Clone_byte_byte.f (y471.take ((ji15) : Int).toNat)).bind fun t479 => (some (t479, 0))) else (none)) else (none)) = some (r1, r2) := by first | (rw [hji15] at H; exact H) | (simp only [hji15] at H ⊢; exact H)
        (try rw [hji15] at A9)
        have hji15_ : (if (y471.length : Int) < a3 then (y471.length : Int) else a3) = ji15 := hji15
        by_cases c16 : 0 ≤ (ji15)
        ·rw [if_pos c16] at H
         have c16b0 := eq_true c16
         have c16b1 : decide (0 ≤ (ji15)) = true := decide_eq_true c16
         clear c16
         by_cases c17 : (ji15) ≤ (y471.length : Int)
         ·rw [if_pos c17] at H
          have c17b0 := eq_true c17
          have c17b1 : decide ((ji15) ≤ (y471.length : Int)) = true := decide_eq_true c17
          clear c17
          obtain ⟨y475, hy475⟩ : ∃ y_ : List Int, y_ = (y471.take ((ji15) : Int).toNat) := ⟨_, rfl⟩
          replace H : ((slices_Clone_byte_byte.f y475).bind fun t479 => (some (t479, 0))) = some (r1, r2) := by first | (rw [hy475]; with_reducible exact H) | (have H2_ := (Option.bind_some _ _).symm.trans H; rw [hy475]; with_reducible exact H2_) | (have H2_ := (Option.bind_some _ _).symm.trans H; with_reducible exact H2_) | with_reducible exact H | (rw [hy475]; exact H) | exact H
          have Ny475 := Aside0.mk hy475
          clear hy475
          replace H := bA H
          obtain ⟨t479, A18, H⟩ := H
          try dsimp only at H
          simp only [Option.some.injEq, Prod.mk.injEq] at H
          obtain ⟨rfl, rfl⟩ := H
          obtain ⟨⟨_, _⟩, _, _⟩ := z2 BK456
          go_wp2_with (first | ((with_reducible refine gate_callee (f := 48) rfl ?_); refine gl_ 22 Tryd.func48 (impl_Stat.calls kj4 _ _ l0_0 a0_1 a1 t457 t458 t459 t460 t463 t466 t469 _ (kC HR0_0) HC0_0.out A9.out) ?_; rintro e w20 ⟨v461, v464, v467, rfl, ho0, ho1, ho2, hb⟩; refine ⟨_, rfl, ?_⟩; have HO462 := Aside0.mk (Kd.R_lower ho0 (below_size oB)); have HO465 := Aside0.mk (Kd.R_lower ho1 (below_size oB)); have HO468 := Aside0.mk (Kd.R_lower ho2 (below_size oB)); replace BK456 := kb_ BK456 hb; replace HB := Aside0.mk (below_step oB hb); (try clear ho1); (try clear ho2)) | ((with_reducible refine gate_dst (N := 10) rfl ?_); refine bx_ 10 #[.int .i64 0, .int .i64 0, .int .i64 0, .slice none 0 0, .slice none 0 0, .slice none 0 0] 64 ?_; intro gb470 hg w21 hbox hb; have BK470 := Aside0.mk (hbox); have GW470 := gs_ hg; have GE470 := gs_ hg; have NB456_470 := nl_ hg BK456; have NB470_456 := nr_ hg BK456; replace HO462 := kr_ HO462 hb; replace HO465 := kr_ HO465 hb; replace HO468 := kr_ HO468 hb; replace BK456 := kb_ BK456 hb; replace HB := Aside0.mk (below_step oB hb); clear hb hbox hg; have hnb22 := NB470_456.out; have hnc22 := NB456_470.out; obtain ⟨⟨_, _, _, _, _, _⟩, _, _, _, _, _, _⟩ := z6 BK470; obtain ⟨Ao24, co24, eo24⟩ := Kd.R_slice HO462.out; subst eo24; obtain ⟨Ao25, co25, eo25⟩ := Kd.R_slice HO465.out; subst eo25; obtain ⟨Ao26, co26, eo26⟩ := Kd.R_slice HO468.out; subst eo26) | ((with_reducible refine gate_store (t := 64) (p := 10) rfl ?_); refine store_event (t := 64) (p := 10) (v := ?vo_w27) (w1 := ((((((w21.setCell ⟨gb470, 0, none⟩ (.int .i64 t457)).setCell ⟨gb470, 1, none⟩ (.int .i64 t458)).setCell ⟨gb470, 2, none⟩ (.int .i64 t459)).setCell ⟨gb470, 3, none⟩ (.slice Ao24 t460.length co24)).setCell ⟨gb470, 4, none⟩ (.slice Ao25 t463.length co25)).setCell ⟨gb470, 5, none⟩ (.slice Ao26 t466.length co26))) ?hg ?ho ?hn ?hr ?_; (case ho => rfl); (case hg => rfl); (case hn => rfl); (case hr => first | (go_simp; done) | (go_simp; rfl)); intro w27 hw; have n0_ : Aside0 (Kd.R (Kd.int .u8) 5 w27 w.heap.size (fun _ => True) (.slice Ao24 t460.length co24) t460) := ⟨(by rw [hw]; exact (by (with_reducible repeat (first | apply Kd.R_alloc | apply Kd.R_drewN | apply Kd.R_drew)); exact Kd.R_mono (Kd.R_far (p := ⟨gb470, 5, none⟩) (Kd.R_far (p := ⟨gb470, 4, none⟩) (Kd.R_far (p := ⟨gb470, 3, none⟩) (Kd.R_far (p := ⟨gb470, 2, none⟩) (Kd.R_far (p := ⟨gb470, 1, none⟩) (Kd.R_far (p := ⟨gb470, 0, none⟩) (Kd.R_types HO462.out BK470.out (by decide)) (fun _ hk => hk.2) (.int .i64 t457)) (fun _ hk => hk.2) (.int .i64 t458)) (fun _ hk => hk.2) (.int .i64 t459)) (fun _ hk => hk.2) (.slice Ao24 t460.length co24)) (fun _ hk => hk.2) (.slice Ao25 t463.length co25)) (fun _ hk => hk.2) (.slice Ao26 t466.length co26)) (fun _ hk => trivial)))⟩; have n1_ : Aside0 (Kd.R k91 91 w27 w.heap.size (fun _ => True) (.slice Ao25 t463.length co25) t463) := ⟨(by rw [hw]; exact (by (with_reducible repeat (first | apply Kd.R_alloc | apply Kd.R_drewN | apply Kd.R_drew)); exact Kd.R_mono (Kd.R_far (p := ⟨gb470, 5, none⟩) (Kd.R_far (p := ⟨gb470, 4, none⟩) (Kd.R_far (p := ⟨gb470, 3, none⟩) (Kd.R_far (p := ⟨gb470, 2, none⟩) (Kd.R_far (p := ⟨gb470, 1, none⟩) (Kd.R_far (p := ⟨gb470, 0, none⟩) (Kd.R_types HO465.out BK470.out (by decide)) (fun _ hk => hk.2) (.int .i64 t457)) (fun _ hk => hk.2) (.int .i64 t458)) (fun _ hk => hk.2) (.int .i64 t459)) (fun _ hk => hk.2) (.slice Ao24 t460.length co24)) (fun _ hk => hk.2) (.slice Ao25 t463.length co25)) (fun _ hk => hk.2) (.slice Ao26 t466.length co26)) (fun _ hk => trivial)))⟩; have n2_ : Aside0 (Kd.R k87 87 w27 w.heap.size (fun _ => True) (.slice Ao26 t466.length co26) t466) := ⟨(by rw [hw]; exact (by (with_reducible repeat (first | apply Kd.R_alloc | apply Kd.R_drewN | apply Kd.R_drew)); exact Kd.R_mono (Kd.R_far (p := ⟨gb470, 5, none⟩) (Kd.R_far (p := ⟨gb470, 4, none⟩) (Kd.R_far (p := ⟨gb470, 3, none⟩) (Kd.R_far (p := ⟨gb470, 2, none⟩) (Kd.R_far (p := ⟨gb470, 1, none⟩) (Kd.R_far (p := ⟨gb470, 0, none⟩) (Kd.R_types HO468.out BK470.out (by decide)) (fun _ hk => hk.2) (.int .i64 t457)) (fun _ hk => hk.2) (.int .i64 t458)) (fun _ hk => hk.2) (.int .i64 t459)) (fun _ hk => hk.2) (.slice Ao24 t460.length co24)) (fun _ hk => hk.2) (.slice Ao25 t463.length co25)) (fun _ hk => hk.2) (.slice Ao26 t466.length co26)) (fun _ hk => trivial)))⟩; have n3_ : Aside0 (w27.heap[gb456]? = some (.cells #[.slice A0_0 l0_0.length c0_0, .int .i64 a0_1] 46 (0, 0))) := ⟨(by rw [hw]; exact (by (with_reducible repeat (first | refine blk_drewN ?_ _ | refine blk_drew ?_ | refine blk_alloc ?_ _)); refine blk_far ?_ NB456_470.out _; (with_reducible repeat (first | refine blk_drewN ?_ _ | refine blk_drew ?_ | refine blk_alloc ?_ _)); refine blk_far ?_ NB456_470.out _; (with_reducible repeat (first | refine blk_drewN ?_ _ | refine blk_drew ?_ | refine blk_alloc ?_ _)); refine blk_far ?_ NB456_470.out _; (with_reducible repeat (first | refine blk_drewN ?_ _ | refine blk_drew ?_ | refine blk_alloc ?_ _)); refine blk_far ?_ NB456_470.out _; (with_reducible repeat (first | refine blk_drewN ?_ _ | refine blk_drew ?_ | refine blk_alloc ?_ _)); refine blk_far ?_ NB456_470.out _; (with_reducible repeat (first | refine blk_drewN ?_ _ | refine blk_drew ?_ | refine blk_alloc ?_ _)); refine blk_far ?_ NB456_470.out _; (with_reducible repeat (first | refine blk_drewN ?_ _ | refine blk_drew ?_ | refine blk_alloc ?_ _)); exact BK456.out))⟩; have n4_ : Aside0 (w27.heap[gb470]? = some (.cells #[.int .i64 t457, .int .i64 t458, .int .i64 t459, .slice Ao24 t460.length co24, .slice Ao25 t463.length co25, .slice Ao26 t466.length co26] 64 (0, 0))) := ⟨(by rw [hw]; exact (by (with_reducible repeat (first | refine blk_drewN ?_ _ | refine blk_drew ?_ | refine blk_alloc ?_ _)); refine blk_put (cs := #[.int .i64 t457, .int .i64 t458, .int .i64 t459, .slice Ao24 t460.length co24, .slice Ao25 t463.length co25, .slice none 0 0]) ?_ 5 _ rfl; (with_reducible repeat (first | refine blk_drewN ?_ _ | refine blk_drew ?_ | refine blk_alloc ?_ _)); refine blk_put (cs := #[.int .i64 t457, .int .i64 t458, .int .i64 t459, .slice Ao24 t460.length co24, .slice none 0 0, .slice none 0 0]) ?_ 4 _ rfl; (with_reducible repeat (first | refine blk_drewN ?_ _ | refine blk_drew ?_ | refine blk_alloc ?_ _)); refine blk_put (cs := #[.int .i64 t457, .int .i64 t458, .int .i64 t459, .slice none 0 0, .slice none 0 0, .slice none 0 0]) ?_ 3 _ rfl; (with_reducible repeat (first | refine blk_drewN ?_ _ | refine blk_drew ?_ | refine blk_alloc ?_ _)); refine blk_put (cs := #[.int .i64 t457, .int .i64 t458, .int .i64 0, .slice none 0 0, .slice none 0 0, .slice none 0 0]) ?_ 2 _ rfl; (with_reducible repeat (first | refine blk_drewN ?_ _ | refine blk_drew ?_ | refine blk_alloc ?_ _)); refine blk_put (cs := #[.int .i64 t457, .int .i64 0, .int .i64 0, .slice none 0 0, .slice none 0 0, .slice none 0 0]) ?_ 1 _ rfl; (with_reducible repeat (first | refine blk_drewN ?_ _ | refine blk_drew ?_ | refine blk_alloc ?_ _)); refine blk_put (cs := #[.int .i64 0, .int .i64 0, .int .i64 0, .slice none 0 0, .slice none 0 0, .slice none 0 0]) ?_ 0 _ rfl; (with_reducible repeat (first | refine blk_drewN ?_ _ | refine blk_drew ?_ | refine blk_alloc ?_ _)); exact BK470.out))⟩; have n5_ : Aside0 (Below w.heap.size w w27) := ⟨(by rw [hw]; exact oB)⟩; clear hw; clear HO462; clear HO465; clear HO468; clear BK456; clear BK470; clear HB; have HO462 := n0_; have HO465 := n1_; have HO468 := n2_; have BK456 := n3_; have BK470 := n4_; have HB := n5_; clear n0_ n1_ n2_ n3_ n4_ n5_; obtain ⟨⟨_, _, _, _, _, _⟩, _, _, _, _, _, _⟩ := z6 BK470; have q29 : ((ji12) : Int) ≤ ((t460.length : Int) : Int) := oa; obtain ⟨i029, hi029, _, hsz29, _⟩ := info_parts info5; have hroom29 : t460.length ≤ co24 := (Kd.R_reads' HO462.out).2.1; have hC29 : Kd.C (Kd.int .u8) _ Ao24 t460.length t460 := (Kd.R_reads' HO462.out).2.2; have q029 : (0 : Int) ≤ ((ji12) : Int) := oa; have hcut29 := cut_from (P := Tryd.prog) 29 5 .i64 Tryd.underlying29 hi029 1 hsz29 Ao24 t460.length co24 (ji12) q029 q29; have hr29 := Kd.C_drop (m := ((ji12) : Int).toNat) (c := co24) hC29 (by omega) hroom29; obtain ⟨A29, hA29⟩ : ∃ A1, A1 = (if co24 = ((ji12) : Int).toNat then Ao24 else (Ao24 : Option Addr).map (·.add (((ji12) : Int).toNat * 1))) := ⟨_, rfl⟩; obtain ⟨c29, hc29⟩ : ∃ c1, c1 = co24 - ((ji12) : Int).toNat := ⟨_, rfl⟩; have hy29 : y471.length = t460.length - ((ji12) : Int).toNat := (by rw [Ny471.out, List.length_drop] <;> omega); rw [show (t460).drop ((ji12) : Int).toNat = y471 from Ny471.out.symm] at hr29; replace hr29 : Kd.C (Kd.int .u8) _ A29 y471.length y471 := (by rw [hA29]; exact hr29); rw [← hy29, ← hA29, ← hc29] at hcut29; have HR474 := Aside0.mk hr29; have HC474 := Aside0.mk (show y471.length ≤ c29 from by rw [hy29, hc29]; exact Nat.sub_le_sub_right hroom29 _); clear hr29 hC29 hroom29 hi029 hsz29 hc29; have KY29 := Aside0.mk hy29; have KA29 := Aside0.mk hA29; clear hy29 hA29; have KL29 := Aside0.mk (show ((ji12) : Int).toNat ≤ t460.length from by omega); replace q29 := eq_true q29; have q30 : ((ji15) : Int) ≤ ((y471.length : Int) : Int) := oa; obtain ⟨i030, hi030, _, hsz30, _⟩ := info_parts info5; have hroom30 : y471.length ≤ c29 := HC474.out; have hC30 : Kd.C (Kd.int .u8) _ A29 y471.length y471 := (by repeat (first | (with_reducible exact HR474.out) | (with_reducible refine Kd.C_alloc ?_ _) | (with_reducible refine Kd.C_drewN ?_ _) | (with_reducible refine Kd.C_drew ?_) | exact HR474.out)); have hcut30 := cut_to (P := Tryd.prog) 29 5 .i64 Tryd.underlying29 hi030 A29 y471.length c29 (ji15) oa q30 hroom30; have hr30 := Kd.C_take (m := ((ji15) : Int).toNat) hC30 (by omega); have hy30 : y475.length = ((ji15) : Int).toNat := (by rw [Ny475.out, List.length_take]; omega); rw [← Ny475.out] at hr30; rw [← hy30] at hcut30; have HR478 := Aside0.mk hr30; have HC478 := Aside0.mk (show y475.length ≤ c29 from by omega); clear hr30 hC30 hroom30 hi030 hsz30; have KY30 := Aside0.mk hy30; clear hy30; replace q30 := eq_true q30) | ((with_reducible refine gate_callee (f := 70) rfl ?_); refine gl_ 45 Tryd.func70 (slices_Clone_byte_byte.calls _ _ y475 t479 _ ?side1 HC478.out A18.out) ?_; (case side1 => repeat (first | exact (by repeat (first | (with_reducible exact HR478.out) | (with_reducible refine Kd.C_alloc ?_ _) | (with_reducible refine Kd.C_drewN ?_ _) | (with_reducible refine Kd.C_drew ?_) | exact HR478.out)) | (with_reducible refine Kd.C_alloc ?_ _) | (with_reducible refine Kd.C_drewN ?_ _) | (with_reducible refine Kd.C_drew ?_))); rintro e w31 ⟨v480, rfl, ho0, hb⟩; refine ⟨_, rfl, ?_⟩; have HO481 := Aside0.mk (Kd.R_lower (Kd.R_new' ho0 (kl_ HO462)) (below_size oB)); replace HO462 := ke_ HO462 ho0 hb; replace HO465 := kr_ HO465 hb; replace HO468 := kr_ HO468 hb; replace BK456 := kb_ BK456 hb; replace BK470 := kb_ BK470 hb; replace HR474 := Aside0.mk (Kd.C_below (by repeat (first | (with_reducible exact HR474.out) | (with_reducible refine Kd.C_alloc ?_ _) | (with_reducible refine Kd.C_drewN ?_ _) | (with_reducible refine Kd.C_drew ?_) | exact HR474.out)) hb); replace HR478 := Aside0.mk (Kd.C_below (by repeat (first | (with_reducible exact HR478.out) | (with_reducible refine Kd.C_alloc ?_ _) | (with_reducible refine Kd.C_drewN ?_ _) | (with_reducible refine Kd.C_drew ?_) | exact HR478.out)) hb); replace HB := Aside0.mk (below_step oB hb)))
          go_ret2
          exact ⟨_, by first | rfl | (simp [errW_none, errW_some] <;> rfl) | (simp only [← hji12, ← hji15]; first | rfl | (simp [errW_none, errW_some] <;> rfl)) | (simp [*, errW_none, errW_some] <;> rfl), by (with_reducible repeat (first | apply Kd.R_alloc | apply Kd.R_drewN | apply Kd.R_drew)); exact Kd.R_mono HO481.out (fun _ hk => trivial), oB⟩
         ·rw [if_neg c17] at H
          exact absurd H (by simp)
        ·rw [if_neg c16] at H
         exact absurd H (by simp)
       ·rw [if_neg c14] at H
        exact absurd H (by simp)
      ·rw [if_neg c13] at H
       exact absurd H (by simp)
     ·rw [if_neg c11] at H
      have c11b0 : (t458 == 1) = false := beq_eq_false_iff_ne.mpr c11
      have c11b1 : (t458 != 1) = true := bne_iff_ne.mpr c11
      simp only [Option.some.injEq, Prod.mk.injEq] at H
      obtain ⟨rfl, rfl⟩ := H
      obtain ⟨⟨_, _⟩, _, _⟩ := z2 BK456
      go_wp2_with (first | ((with_reducible refine gate_callee (f := 48) rfl ?_); refine gl_ 22 Tryd.func48 (impl_Stat.calls kj4 _ _ l0_0 a0_1 a1 t457 t458 t459 t460 t463 t466 t469 _ (kC HR0_0) HC0_0.out A9.out) ?_; rintro e w33 ⟨v461, v464, v467, rfl, ho0, ho1, ho2, hb⟩; refine ⟨_, rfl, ?_⟩; have HO462 := Aside0.mk (Kd.R_lower ho0 (below_size oB)); have HO465 := Aside0.mk (Kd.R_lower ho1 (below_size oB)); have HO468 := Aside0.mk (Kd.R_lower ho2 (below_size oB)); replace BK456 := kb_ BK456 hb; replace HB := Aside0.mk (below_step oB hb); (try clear ho1); (try clear ho2)) | ((with_reducible refine gate_dst (N := 10) rfl ?_); refine bx_ 10 #[.int .i64 0, .int .i64 0, .int .i64 0, .slice none 0 0, .slice none 0 0, .slice none 0 0] 64 ?_; intro gb470 hg w34 hbox hb; have BK470 := Aside0.mk (hbox); have GW470 := gs_ hg; have GE470 := gs_ hg; have NB456_470 := nl_ hg BK456; have NB470_456 := nr_ hg BK456; replace HO462 := kr_ HO462 hb; replace HO465 := kr_ HO465 hb; replace HO468 := kr_ HO468 hb; replace BK456 := kb_ BK456 hb; replace HB := Aside0.mk (below_step oB hb); clear hb hbox hg; have hnb35 := NB470_456.out; have hnc35 := NB456_470.out; obtain ⟨⟨_, _, _, _, _, _⟩, _, _, _, _, _, _⟩ := z6 BK470; obtain ⟨Ao37, co37, eo37⟩ := Kd.R_slice HO462.out; subst eo37; obtain ⟨Ao38, co38, eo38⟩ := Kd.R_slice HO465.out; subst eo38; obtain ⟨Ao39, co39, eo39⟩ := Kd.R_slice HO468.out; subst eo39))
      go_ret2
      exact ⟨_, oE, by first | exact Kd.R_nil _ _ _ _ _ | exact Kd.N_nil _ _ _ _ _ | exact Kd.V_nil _ _ _ _ _ | exact Kd.Q_nil _ _ _ _ _ | exact Kd.S_nil _ _ _ _ _, oB⟩
    ·rw [if_neg c10] at H
     have c10b0 : (t469 == 0) = false := beq_eq_false_iff_ne.mpr c10
     have c10b1 : (t469 != 0) = true := bne_iff_ne.mpr c10
     simp only [Option.some.injEq, Prod.mk.injEq] at H
     obtain ⟨rfl, rfl⟩ := H
     obtain ⟨⟨_, _⟩, _, _⟩ := z2 BK456
     go_wp2_with (first | ((with_reducible refine gate_callee (f := 48) rfl ?_); refine gl_ 22 Tryd.func48 (impl_Stat.calls kj4 _ _ l0_0 a0_1 a1 t457 t458 t459 t460 t463 t466 t469 _ (kC HR0_0) HC0_0.out A9.out) ?_; rintro e w41 ⟨v461, v464, v467, rfl, ho0, ho1, ho2, hb⟩; refine ⟨_, rfl, ?_⟩; have HO462 := Aside0.mk (Kd.R_lower ho0 (below_size oB)); have HO465 := Aside0.mk (Kd.R_lower ho1 (below_size oB)); have HO468 := Aside0.mk (Kd.R_lower ho2 (below_size oB)); replace BK456 := kb_ BK456 hb; replace HB := Aside0.mk (below_step oB hb); (try clear ho1); (try clear ho2)) | ((with_reducible refine gate_dst (N := 10) rfl ?_); refine bx_ 10 #[.int .i64 0, .int .i64 0, .int .i64 0, .slice none 0 0, .slice none 0 0, .slice none 0 0] 64 ?_; intro gb470 hg w42 hbox hb; have BK470 := Aside0.mk (hbox); have GW470 := gs_ hg; have GE470 := gs_ hg; have NB456_470 := nl_ hg BK456; have NB470_456 := nr_ hg BK456; replace HO462 := kr_ HO462 hb; replace HO465 := kr_ HO465 hb; replace HO468 := kr_ HO468 hb; replace BK456 := kb_ BK456 hb; replace HB := Aside0.mk (below_step oB hb); clear hb hbox hg; have hnb43 := NB470_456.out; have hnc43 := NB456_470.out; obtain ⟨⟨_, _, _, _, _, _⟩, _, _, _, _, _, _⟩ := z6 BK470; obtain ⟨Ao45, co45, eo45⟩ := Kd.R_slice HO462.out; subst eo45; obtain ⟨Ao46, co46, eo46⟩ := Kd.R_slice HO465.out; subst eo46; obtain ⟨Ao47, co47, eo47⟩ := Kd.R_slice HO468.out; subst eo47))
     go_ret2
     exact ⟨_, oE, by first | exact Kd.R_nil _ _ _ _ _ | exact Kd.N_nil _ _ _ _ _ | exact Kd.V_nil _ _ _ _ _ | exact Kd.Q_nil _ _ _ _ _ | exact Kd.S_nil _ _ _ _ _, oB⟩

/-! ### laws_markByteS: function 43 -/
def laws_markByteS.l0 : Nat → List Int → Int → Int → Option (Int × List Int)
 | 0, _, _, _ => none
 | k + 1, x0, x1, x5 => if x5 < (x0.length : Int) then (if 0 ≤ x5 then (laws_markByteS.l0 k (x0.set (x5 : Int).toNat ((x1) % 256)) (wrap64 (x1 + 1)) (wrap64 (x5 + 1))) else (none)) else (some (x1, x0))
def laws_markByteS.f (k : Nat) (l0 : List Int) (a1 : Int) : Option (Int × List Int) := laws_markByteS.l0 k l0 a1 0
set_option maxHeartbeats 8000000 in
set_option maxRecDepth 100000 in
theorem laws_markByteS.calls (k : Nat) (P0_ : Nat → Prop) (u9000_ : Value) (l0 : List Int) (a1 : Int) (r1 : Int) (r2 : List Int) (w0 w : World) (hB : Below w0.heap.size w0 w) (ho0 : Kd.R (Kd.int .u8) 5 w w0.heap.size P0_ u9000_ l0) (h : laws_markByteS.f k l0 a1 = some (r1, r2)) :
  Calls Tryd.prog 43 #[u9000_, .int .i64 a1] w fun e w' => e = .returned (.int .i64 r1) ∧ Kd.R (Kd.int .u8) 5 w' w0.heap.size (fun k_ => (P0_ k_ ∨ w.heap.size ≤ k_)) u9000_ r2 ∧ Below w0.heap.size w0 w' ∧ Kept w w' (fun k_ => P0_ k_) := by
 have HO0 := Aside0.mk (show Kd.R (Kd.int .u8) 5 w w0.heap.size (fun k_ => (P0_ k_ ∨ w.heap.size ≤ k_)) u9000_ l0 from Kd.R_mono ho0 (fun k_ hk => (.inl hk)))
 have HK := Aside0.mk (Kept.refl w (fun k_ => P0_ k_))
 have HW0 := Aside0.mk hB.size
 have HB := Aside0.mk hB
 clear hB
 unfold laws_markByteS.f at h
 have H := h
 clear h
 have H' := Aside0.mk H
 clear H
 go_enter Tryd.func43, Tryd.ntmps43
 go_wp2
 go_loopg [1, 5] k (fun kq v1 v5 w' => ∃ (x0_1 : List Int) (x1_1 : Int) (x5_1 : Int), v1 = .int .i64 x1_1 ∧ v5 = .int .i64 x5_1 ∧ Aside0 (laws_markByteS.l0 kq x0_1 x1_1 x5_1 = some (r1, r2)) ∧ Aside0 (kq ≤ k) ∧ Aside0 (Kd.R (Kd.int .u8) 5 w' w0.heap.size (fun k_ => (P0_ k_ ∨ w.heap.size ≤ k_)) u9000_ x0_1) ∧ Aside0 (Kept w w' (fun k_ => P0_ k_)) ∧ Aside0 (Below w0.heap.size w0 w'))
 case atStart => exact ⟨(l0), (a1), (0), oS, oS, H', ⟨Nat.le_refl _⟩, ⟨oR HO0⟩, ⟨oK⟩, ⟨oB⟩⟩
 case round =>
  clear H'
  obtain ⟨x0_1, x1_1, x5_1, rfl, rfl, HA, HK1, HO_0, HK, HB⟩ := hrel
  cases gk with
  | zero => exact absurd HA.out (by simp [laws_markByteS.l0])
  | succ k1 =>
   have H := HA.out
   clear HA
   simp only [laws_markByteS.l0] at H
   replace H := itD H
   rcases H with ⟨c3b0, H⟩ | ⟨c3b0, H⟩
   ·replace H := itD H
    rcases H with ⟨c4b0, H⟩ | ⟨c4b0, H⟩
    ·obtain ⟨y482, hy482⟩ : ∃ y_ : List Int, y_ = (x0_1.set (x5_1 : Int).toNat ((x1_1) % 256)) := ⟨_, rfl⟩
     replace H : (laws_markByteS.l0 k1 y482 (wrap64 (x1_1 + 1)) (wrap64 (x5_1 + 1))) = some (r1, r2) := by first | (rw [hy482]; with_reducible exact H) | (have H2_ := (Option.bind_some _ _).symm.trans H; rw [hy482]; with_reducible exact H2_) | (have H2_ := (Option.bind_some _ _).symm.trans H; with_reducible exact H2_) | with_reducible exact H | (rw [hy482]; exact H) | exact H
     have Ny482 := Aside0.mk hy482
     clear hy482
     have H' := Aside0.mk H
     clear H
     obtain ⟨Ao6, co6, eo6⟩ := Kd.R_slice HO_0.out
     subst eo6
     have p5 : 0 ≤ (x5_1 : Int) := oa
     have q5 : (x5_1 : Int) < ((x0_1.length : Int) : Int) := oa
     obtain ⟨go5, co5, eo5, gb5, gl5, cl5, HG5⟩ := Kd.R_form HO_0.out (by omega)
     (first | cases eo5 | (injection eo5 with ea_ en_ ec_; (first | subst ea_ | (injection ea_ with ea_; subst ea_)); subst ec_; clear en_))
     have GB5 := Aside0.mk gb5
     have GG5 := Aside0.mk HG5
     clear gb5 gl5 HG5
     have HMgo5 := Aside0.mk (show (P0_ go5 ∨ w.heap.size ≤ go5) from (HO_0.out.1 _ rfl))
     obtain ⟨hx5_0, hf5_0⟩ := Kd.R_celln 0 HO_0.out (x5_1 : Int) p5 q5
     replace p5 := eq_true p5
     replace q5 := eq_true q5
     have HP7 := Kd.R_putg HO_0.out (x5_1 : Int) ((x1_1) % 256)
     go_wp2_with (first | ((with_reducible refine gate_store (t := 5) (p := 16) rfl ?_); refine store_event (t := 5) (p := 16) (v := ?vo_w8) (w1 := (wr.setCell ⟨go5, (x5_1 : Int).toNat, none⟩ (.int .u8 ((x1_1) % 256)))) ?hg ?ho ?hn ?hr ?_; (case ho => rfl); (case hg => rfl); (case hn => rfl); (case hr => first | (go_simp; done) | (go_simp; rfl)); intro w8 hw; have hg : wr.grownBy w8 (some go5) := (by rw [hw]; exact HP7.2); have hp_ : Kd.R (Kd.int .u8) 5 w8 w0.heap.size (fun k_ => (P0_ k_ ∨ w.heap.size ≤ k_)) (.slice (some ⟨go5, 0, none⟩) x0_1.length co6) y482 := (by rw [hw, Ny482.out]; exact HP7.1); clear HP7; replace HO_0 := Aside0.mk (hp_); replace HK := Aside0.mk (Kept.of_grown (S := (fun k_ => P0_ k_)) hg oK (fun k_ e_ => (HO_0.out.1 k_ e_))); replace HB := Aside0.mk ((by rw [hw]; exact below_set (HB.out) GB5.out : Below w0.heap.size w0 w8)); clear hg hw hp_))
     go_roundg k1
     case measure => have := HK1.out; omega
     case rel => exact ⟨(y482), (wrap64 (x1_1 + 1)), (wrap64 (x5_1 + 1)), oS, oS, H', ⟨by have := HK1.out; omega⟩, ⟨oR HO_0⟩, ⟨oK⟩, ⟨oB⟩⟩
    ·cases H
   ·simp only [Option.some.injEq, Prod.mk.injEq] at H
    obtain ⟨rfl, rfl⟩ := H
    obtain ⟨Ao9, co9, eo9⟩ := Kd.R_slice HO_0.out
    subst eo9
    go_wp2
    go_ret
    exact ⟨oE, oR HO_0, oB, oK⟩

/-! ### laws_markText: function 56 -/
def laws_markText.l0 : Nat → Int → ByteArray → Option (ByteArray)
 | 0, _, _ => none
 | k + 1, x0, x3 => if x0 > 0 then ((some (([(wrap64 (48 + (Int.tmod x0 10))) % 256] : List Int) : List Int)).bind fun y483 => (if (strOfNums y483).size + x3.size ≤ 9223372036854775807 then (laws_markText.l0 k (wrap64 (Int.tdiv x0 10)) ((strOfNums y483) ++ x3)) else (none))) else (if 1 + x3.size ≤ 9223372036854775807 then (some ((⟨#[109]⟩ : ByteArray) ++ x3)) else (none))
def laws_markText.f (k : Nat) (a0 : Int) : Option (ByteArray) := if a0 ≤ 0 then (some (⟨#[109, 48]⟩ : ByteArray)) else (laws_markText.l0 k a0 (⟨#[]⟩ : ByteArray))
set_option maxHeartbeats 8000000 in
set_option maxRecDepth 100000 in
theorem laws_markText.calls (k : Nat) (a0 : Int) (r : ByteArray) (w : World) (h : laws_markText.f k a0 = some r) :
  Calls Tryd.prog 56 #[.int .i64 a0] w fun e w' => e = .returned (.string r) ∧ Below w.heap.size w w' := by
 have HB := Aside0.mk (Below.refl w.heap.size w)
 unfold laws_markText.f at h
 have H := h
 clear h
 replace H := itD H
 rcases H with ⟨c2b0, H⟩ | ⟨c2b0, H⟩
 ·obtain rfl := Option.some.inj H
  go_enter Tryd.func56, Tryd.ntmps56
  go_wp2
  go_ret
  exact ⟨oE, oB⟩
 ·have H' := Aside0.mk H
  clear H
  go_enter Tryd.func56, Tryd.ntmps56
  go_wp2
  go_loopg [0, 3] k (fun kq v0 v3 w' => ∃ (x0_1 : Int) (x3_1 : ByteArray), v0 = .int .i64 x0_1 ∧ v3 = .string x3_1 ∧ Aside0 (laws_markText.l0 kq x0_1 x3_1 = some r) ∧ Aside0 (kq ≤ k) ∧ Aside0 (Below w.heap.size w w'))
  case atStart => exact ⟨(a0), ((⟨#[]⟩ : ByteArray)), oS, oS, H', ⟨Nat.le_refl _⟩, ⟨oB⟩⟩
  case round =>
   clear H'
   try clear c2b0
   obtain ⟨x0_1, x3_1, rfl, rfl, HA, HK1, HB⟩ := hrel
   cases gk with
   | zero => exact absurd HA.out (by simp [laws_markText.l0])
   | succ k1 =>
    have H := HA.out
    clear HA
    simp only [laws_markText.l0] at H
    replace H := itG H
    rcases H with ⟨c3b0, H⟩ | ⟨c3b0, H⟩
    ·obtain ⟨y483, hy483⟩ : ∃ y_ : List Int, y_ = (([(wrap64 (48 + (Int.tmod x0_1 10))) % 256] : List Int)) := ⟨_, rfl⟩
     replace H : (if (strOfNums y483).size + x3_1.size ≤ 9223372036854775807 then (laws_markText.l0 k1 (wrap64 (Int.tdiv x0_1 10)) ((strOfNums y483) ++ x3_1)) else (none)) = some r := by first | (rw [hy483]; with_reducible exact H) | (have H2_ := (Option.bind_some _ _).symm.trans H; rw [hy483]; with_reducible exact H2_) | (have H2_ := (Option.bind_some _ _).symm.trans H; with_reducible exact H2_) | with_reducible exact H | (rw [hy483]; exact H) | exact H
     have Ny483 := Aside0.mk hy483
     clear hy483
     by_cases c4 : (strOfNums y483).size + x3_1.size ≤ 9223372036854775807
     ·rw [if_pos c4] at H
      have c4b0 := eq_true c4
      have c4b1 : decide ((strOfNums y483).size + x3_1.size ≤ 9223372036854775807) = true := decide_eq_true c4
      try have c4b2 : (9223372036854775807 < (strOfNums y483).size + x3_1.size) = False := eq_false (Nat.not_lt.2 c4)
      have H' := Aside0.mk H
      clear H
      go_wp2_with (first | ((with_reducible refine gate_dst (N := 12) rfl ?_); refine Kd.R_lit (Kd.int .u8) _ 5 ?hg (N := 12) ?hd (xs := ([(wrap64 (48 + (Int.tmod x0_1 10))) % 256] : List Int)) (inner := [.int .u8 ((wrap64 (48 + (Int.tmod x0_1 10))) % 256)]) (ok := fun _ => True) (okp := fun _ => True) ?hr ?hp (fun _ hk => hk) trivial (Below.refl _ _) (Nat.le_refl _) (by simp) ?_; (case hd => rfl); (case hg => rfl); (case hr => first | (go_simp; done) | (go_simp; rfl)); (case hp => exact (Reps.one (show Kd.M (Kd.int .u8) _ _ _ ((wrap64 (48 + (Int.tmod x0_1 10))) % 256) [.int .u8 ((wrap64 (48 + (Int.tmod x0_1 10))) % 256)] from rfl) (Reps.none _ _))); intro v484 w5 ho6 hb hg_ hnew_; clear hg_ hnew_; (first | rw [← Ny483.out] at ho6 | (simp only [Int.reduceToNat] at ho6; rw [← Ny483.out] at ho6)); have HO485 := Aside0.mk (Kd.R_lower ho6 (below_size oB)); replace HB := Aside0.mk (below_step oB hb); clear hb ho6; have hcv7 := own_string (P := Tryd.prog) Tryd.underlying29 Tryd.underlying5 Tryd.underlying9 (Kd.own_of_R HO485.out)))
      go_roundg k1
      case measure => have := HK1.out; omega
      case rel => exact ⟨(wrap64 (Int.tdiv x0_1 10)), ((strOfNums y483) ++ x3_1), oS, oS, H', ⟨by have := HK1.out; omega⟩, ⟨oB⟩⟩
     ·rw [if_neg c4] at H
      exact absurd H (by simp)
    ·by_cases c8 : 1 + x3_1.size ≤ 9223372036854775807
     ·rw [if_pos c8] at H
      have c8b0 := eq_true c8
      have c8b1 : decide (1 + x3_1.size ≤ 9223372036854775807) = true := decide_eq_true c8
      try have c8b2 : (9223372036854775807 < 1 + x3_1.size) = False := eq_false (Nat.not_lt.2 c8)
      obtain rfl := Option.some.inj H
      go_wp2
      go_ret
      exact ⟨oE, oB⟩
     ·rw [if_neg c8] at H
      exact absurd H (by simp)

/-! ### laws_markEntS: function 75 -/
def laws_markEntS.l0 : Nat → List (S91) → Int → Int → Option (Int × (List (S91)))
 | 0, _, _, _ => none
 | k + 1, x0, x1, x5 => if x5 < (x0.length : Int) then ((laws_markText.f k x1).bind fun t486 => (if 0 ≤ x5 then ((some (x0.set (x5 : Int).toNat (⟨t486, (rd_T91 x0 x5).f1⟩ : S91) : List (S91))).bind fun y487 => (laws_markEntS.l0 k (y487.set (x5 : Int).toNat (⟨(rd_T91 y487 x5).f0, wrap64 (x1 + 1)⟩ : S91)) (wrap64 ((wrap64 (x1 + 1)) + 1)) (wrap64 (x5 + 1)))) else (none))) else (some (x1, x0))
def laws_markEntS.f (k : Nat) (l0 : List (S91)) (a1 : Int) : Option (Int × (List (S91))) := laws_markEntS.l0 k l0 a1 0
set_option maxHeartbeats 8000000 in
set_option maxRecDepth 100000 in
theorem laws_markEntS.calls (k : Nat) (P0_ : Nat → Prop) (u9000_ : Value) (l0 : List (S91)) (a1 : Int) (r1 : Int) (r2 : List (S91)) (w0 w : World) (hB : Below w0.heap.size w0 w) (ho0 : Kd.R k91 91 w w0.heap.size P0_ u9000_ l0) (h : laws_markEntS.f k l0 a1 = some (r1, r2)) :
  Calls Tryd.prog 75 #[u9000_, .int .i64 a1] w fun e w' => e = .returned (.int .i64 r1) ∧ Kd.R k91 91 w' w0.heap.size (fun k_ => (P0_ k_ ∨ w.heap.size ≤ k_)) u9000_ r2 ∧ Below w0.heap.size w0 w' ∧ Kept w w' (fun k_ => P0_ k_) := by
 have HO0 := Aside0.mk (show Kd.R k91 91 w w0.heap.size (fun k_ => (P0_ k_ ∨ w.heap.size ≤ k_)) u9000_ l0 from Kd.R_mono ho0 (fun k_ hk => (.inl hk)))
 have HK := Aside0.mk (Kept.refl w (fun k_ => P0_ k_))
 have HW0 := Aside0.mk hB.size
 have HB := Aside0.mk hB
 clear hB
 unfold laws_markEntS.f at h
 have H := h
 clear h
 have H' := Aside0.mk H
 clear H
 go_enter Tryd.func75, Tryd.ntmps75
 go_wp2
 go_loopg [1, 5] k (fun kq v1 v5 w' => ∃ (x0_1 : List (S91)) (x1_1 : Int) (x5_1 : Int), v1 = .int .i64 x1_1 ∧ v5 = .int .i64 x5_1 ∧ Aside0 (laws_markEntS.l0 kq x0_1 x1_1 x5_1 = some (r1, r2)) ∧ Aside0 (kq ≤ k) ∧ Aside0 (Kd.R k91 91 w' w0.heap.size (fun k_ => (P0_ k_ ∨ w.heap.size ≤ k_)) u9000_ x0_1) ∧ Aside0 (Kept w w' (fun k_ => P0_ k_)) ∧ Aside0 (Below w0.heap.size w0 w'))
 case atStart => exact ⟨(l0), (a1), (0), oS, oS, H', ⟨Nat.le_refl _⟩, ⟨oR HO0⟩, ⟨oK⟩, ⟨oB⟩⟩
 case round =>
  clear H'
  obtain ⟨x0_1, x1_1, x5_1, rfl, rfl, HA, HK1, HO_0, HK, HB⟩ := hrel
  cases gk with
  | zero => exact absurd HA.out (by simp [laws_markEntS.l0])
  | succ k1 =>
   have H := HA.out
   clear HA
   simp only [laws_markEntS.l0] at H
   replace H := itD H
   rcases H with ⟨c3b0, H⟩ | ⟨c3b0, H⟩
   ·replace H := bA H
    obtain ⟨t486, A4, H⟩ := H
    try dsimp only at H
    replace H := itD H
    rcases H with ⟨c5b0, H⟩ | ⟨c5b0, H⟩
    ·obtain ⟨y487, hy487⟩ : ∃ y_ : List (S91), y_ = (x0_1.set (x5_1 : Int).toNat (⟨t486, (rd_T91 x0_1 x5_1).f1⟩ : S91)) := ⟨_, rfl⟩
     replace H : (laws_markEntS.l0 k1 (y487.set (x5_1 : Int).toNat (⟨(rd_T91 y487 x5_1).f0, wrap64 (x1_1 + 1)⟩ : S91)) (wrap64 ((wrap64 (x1_1 + 1)) + 1)) (wrap64 (x5_1 + 1))) = some (r1, r2) := by first | (rw [hy487]; with_reducible exact H) | (have H2_ := (Option.bind_some _ _).symm.trans H; rw [hy487]; with_reducible exact H2_) | (have H2_ := (Option.bind_some _ _).symm.trans H; with_reducible exact H2_) | with_reducible exact H | (rw [hy487]; exact H) | exact H
     have Ny487 := Aside0.mk hy487
     clear hy487
     obtain ⟨y488, hy488⟩ : ∃ y_ : List (S91), y_ = (y487.set (x5_1 : Int).toNat (⟨(rd_T91 y487 x5_1).f0, wrap64 (x1_1 + 1)⟩ : S91)) := ⟨_, rfl⟩
     replace H : (laws_markEntS.l0 k1 y488 (wrap64 ((wrap64 (x1_1 + 1)) + 1)) (wrap64 (x5_1 + 1))) = some (r1, r2) := by first | (rw [hy488]; with_reducible exact H) | (have H2_ := (Option.bind_some _ _).symm.trans H; rw [hy488]; with_reducible exact H2_) | (have H2_ := (Option.bind_some _ _).symm.trans H; with_reducible exact H2_) | with_reducible exact H | (rw [hy488]; exact H) | exact H
     have Ny488 := Aside0.mk hy488
     clear hy488
     have H' := Aside0.mk H
     clear H
     obtain ⟨Ao8, co8, eo8⟩ := Kd.R_slice HO_0.out
     subst eo8
     go_wp2_with (first | ((with_reducible refine gate_callee (f := 56) rfl ?_); refine gl_ 15 Tryd.func56 (laws_markText.calls k1 x1_1 t486 _ A4.out) ?_; rintro e w9 ⟨rfl, hb⟩; refine ⟨_, rfl, ?_⟩; replace HO_0 := kr_ HO_0 hb; replace HK := Aside0.mk (Kept.below (S := (fun k_ => P0_ k_)) oK hb); replace HB := Aside0.mk (below_step oB hb); (try clear hk); have p6 : 0 ≤ (x5_1 : Int) := oa; have q6 : (x5_1 : Int) < ((x0_1.length : Int) : Int) := oa; obtain ⟨go6, co6, eo6, gb6, gl6, cl6, HG6⟩ := Kd.R_form HO_0.out (by omega); (first | cases eo6 | (injection eo6 with ea_ en_ ec_; (first | subst ea_ | (injection ea_ with ea_; subst ea_)); subst ec_; clear en_)); have GB6 := Aside0.mk gb6; have GG6 := Aside0.mk HG6; clear gb6 gl6 HG6; have HMgo6 := Aside0.mk (show (P0_ go6 ∨ w.heap.size ≤ go6) from (HO_0.out.1 _ rfl)); obtain ⟨ce6, hcl6, hM6, hcc6, hfr6⟩ := Kd.R_elem HO_0.out z91 (x5_1 : Int) p6 q6; obtain rfl := k91_openM hM6; have hx6_0 : w9.cell? ⟨go6, (x5_1 : Int).toNat * 2, none⟩ = some (.string ((rd_T91 x0_1 x5_1).f0)) := hcc6 0 _ rfl; have hx6_1 : w9.cell? ⟨go6, (x5_1 : Int).toNat * 2 + 1, none⟩ = some (.int .i64 ((rd_T91 x0_1 x5_1).f1)) := hcc6 1 _ rfl; have hf6_0 : w9.frozen? ⟨go6, (x5_1 : Int).toNat * 2, none⟩ = false := hfr6 0; have hf6_1 : w9.frozen? ⟨go6, (x5_1 : Int).toNat * 2 + 1, none⟩ = false := hfr6 1; clear hcl6 hcc6 hfr6 hM6; replace p6 := eq_true p6; replace q6 := eq_true q6; have HX10 := Aside0.mk (show Kd.R k91 91 w9 w0.heap.size (fun k_ => (P0_ k_ ∨ w.heap.size ≤ k_)) (.slice (some ⟨go6, 0, none⟩) x0_1.length co8) x0_1 from (oR HO_0)); obtain ⟨ce10, hcl10, hM10, hcc10, hfr10⟩ := Kd.R_elem HX10.out z91 (x5_1 : Int) oa (by have h_ : (x5_1 : Int) < ((x0_1.length : Int) : Int) := oa; first | exact h_ | (have e_ := (Kd.R_reads' HO_0.out).1; omega) | simpa using h_); obtain rfl := k91_openM hM10; have HP10 := Kd.R_seg HX10.out (x5_1 : Int) oa (by have h_ : (x5_1 : Int) < ((x0_1.length : Int) : Int) := oa; first | exact h_ | (have e_ := (Kd.R_reads' HO_0.out).1; omega) | simpa using h_) (seg := [.string t486]) (j := 0) hcl10 hcc10 (show 1 ≤ 2 from by decide) (x' := (⟨t486, (rd_T91 x0_1 x5_1).f1⟩ : S91)) (k91_mkM _ _ _ (⟨t486, (rd_T91 x0_1 x5_1).f1⟩ : S91) ) (fun _ hk => hk); have hx10_0 := hcc10 0 _ rfl; (try simp only [show (k91).sz = 2 from rfl, Nat.mul_one, Nat.add_zero] at hx10_0); have hf10_0 := hfr10 0; (try simp only [show (k91).sz = 2 from rfl, Nat.mul_one, Nat.add_zero] at hf10_0); clear hcl10 hcc10 hfr10 hM10) | ((with_reducible refine gate_store (t := 9) (p := 17) rfl ?_); refine store_event (t := 9) (p := 17) (v := ?vo_w11) (w1 := (w9.setCell ⟨go6, (x5_1 : Int).toNat * 2, none⟩ (.string t486))) ?hg ?ho ?hn ?hr ?_; (case ho => rfl); (case hg => rfl); (case hn => rfl); (case hr => first | (go_simp; done) | (go_simp; rfl)); intro w11 hw; have hg : w9.grownBy w11 (some go6) := (by rw [hw]; exact HP10.2); have hp_ : Kd.R k91 91 w11 w0.heap.size (fun k_ => (P0_ k_ ∨ w.heap.size ≤ k_)) (.slice (some ⟨go6, 0, none⟩) x0_1.length co8) y487 := (by rw [hw, Ny487.out]; exact HP10.1); clear HP10; replace HO_0 := Aside0.mk (hp_); replace HK := Aside0.mk (Kept.of_grown (S := (fun k_ => P0_ k_)) hg oK (fun k_ e_ => (HO_0.out.1 k_ e_))); replace HB := Aside0.mk ((by rw [hw]; exact below_set (HB.out) GB6.out : Below w0.heap.size w0 w11)); clear hg hw hp_; have p7 : (0 ≤ (x5_1 : Int)) = True := oT; have q7 : ((x5_1 : Int) < ((x0_1.length : Int) : Int)) = True := oT; obtain ⟨ce7, hcl7, hM7, hcc7, hfr7⟩ := Kd.R_elem HO_0.out z91 (x5_1 : Int) oa oa; obtain rfl := k91_openM hM7; have hx7_0 : w11.cell? ⟨go6, (x5_1 : Int).toNat * 2, none⟩ = some (.string ((rd_T91 y487 x5_1).f0)) := hcc7 0 _ rfl; have hx7_1 : w11.cell? ⟨go6, (x5_1 : Int).toNat * 2 + 1, none⟩ = some (.int .i64 ((rd_T91 y487 x5_1).f1)) := hcc7 1 _ rfl; have hf7_0 : w11.frozen? ⟨go6, (x5_1 : Int).toNat * 2, none⟩ = false := hfr7 0; have hf7_1 : w11.frozen? ⟨go6, (x5_1 : Int).toNat * 2 + 1, none⟩ = false := hfr7 1; clear hcl7 hcc7 hfr7 hM7; have HX12 := Aside0.mk (show Kd.R k91 91 w11 w0.heap.size (fun k_ => (P0_ k_ ∨ w.heap.size ≤ k_)) (.slice (some ⟨go6, 0, none⟩) x0_1.length co8) y487 from (oR HO_0)); obtain ⟨ce12, hcl12, hM12, hcc12, hfr12⟩ := Kd.R_elem HX12.out z91 (x5_1 : Int) oa (by have h_ : (x5_1 : Int) < ((x0_1.length : Int) : Int) := oa; first | exact h_ | (have e_ := (Kd.R_reads' HO_0.out).1; omega) | simpa using h_); obtain rfl := k91_openM hM12; have HP12 := Kd.R_seg HX12.out (x5_1 : Int) oa (by have h_ : (x5_1 : Int) < ((x0_1.length : Int) : Int) := oa; first | exact h_ | (have e_ := (Kd.R_reads' HO_0.out).1; omega) | simpa using h_) (seg := [.int .i64 (wrap64 (x1_1 + 1))]) (j := 1) hcl12 hcc12 (show 2 ≤ 2 from by decide) (x' := (⟨(rd_T91 y487 x5_1).f0, wrap64 (x1_1 + 1)⟩ : S91)) (k91_mkM _ _ _ (⟨(rd_T91 y487 x5_1).f0, wrap64 (x1_1 + 1)⟩ : S91) ) (fun _ hk => hk); have hx12_1 := hcc12 1 _ rfl; (try simp only [show (k91).sz = 2 from rfl, Nat.mul_one, Nat.add_zero] at hx12_1); have hf12_1 := hfr12 1; (try simp only [show (k91).sz = 2 from rfl, Nat.mul_one, Nat.add_zero] at hf12_1); clear hcl12 hcc12 hfr12 hM12) | ((with_reducible refine gate_store (t := 3) (p := 24) rfl ?_); refine store_event (t := 3) (p := 24) (v := ?vo_w13) (w1 := (w11.setCell ⟨go6, (x5_1 : Int).toNat * 2 + 1, none⟩ (.int .i64 (wrap64 (x1_1 + 1))))) ?hg ?ho ?hn ?hr ?_; (case ho => rfl); (case hg => rfl); (case hn => rfl); (case hr => first | (go_simp; done) | (go_simp; rfl)); intro w13 hw; have hg : w11.grownBy w13 (some go6) := (by rw [hw]; exact HP12.2); have hp_ : Kd.R k91 91 w13 w0.heap.size (fun k_ => (P0_ k_ ∨ w.heap.size ≤ k_)) (.slice (some ⟨go6, 0, none⟩) x0_1.length co8) y488 := (by rw [hw, Ny488.out]; exact HP12.1); clear HP12; replace HO_0 := Aside0.mk (hp_); replace HK := Aside0.mk (Kept.of_grown (S := (fun k_ => P0_ k_)) hg oK (fun k_ e_ => (HO_0.out.1 k_ e_))); replace HB := Aside0.mk ((by rw [hw]; exact below_set (HB.out) GB6.out : Below w0.heap.size w0 w13)); clear hg hw hp_))
     go_roundg k1
     case measure => have := HK1.out; omega
     case rel => exact ⟨(y488), (wrap64 ((wrap64 (x1_1 + 1)) + 1)), (wrap64 (x5_1 + 1)), oS, oS, H', ⟨by have := HK1.out; omega⟩, ⟨oR HO_0⟩, ⟨oK⟩, ⟨oB⟩⟩
    ·cases H
   ·simp only [Option.some.injEq, Prod.mk.injEq] at H
    obtain ⟨rfl, rfl⟩ := H
    obtain ⟨Ao14, co14, eo14⟩ := Kd.R_slice HO_0.out
    subst eo14
    go_wp2
    go_ret
    exact ⟨oE, oR HO_0, oB, oK⟩

/-! ### laws_markAttrS: function 76 -/
def laws_markAttrS.l0 : Nat → List (S87) → Int → Int → Option (Int × (List (S87)))
 | 0, _, _, _ => none
 | k + 1, x0, x1, x5 => if x5 < (x0.length : Int) then ((laws_markText.f k x1).bind fun t489 => (if 0 ≤ x5 then ((some (x0.set (x5 : Int).toNat (⟨t489, (rd_T87 x0 x5).f1⟩ : S87) : List (S87))).bind fun y490 => ((laws_markText.f k (wrap64 (x1 + 1))).bind fun t491 => (laws_markAttrS.l0 k (y490.set (x5 : Int).toNat (⟨(rd_T87 y490 x5).f0, t491⟩ : S87)) (wrap64 ((wrap64 (x1 + 1)) + 1)) (wrap64 (x5 + 1))))) else (none))) else (some (x1, x0))
def laws_markAttrS.f (k : Nat) (l0 : List (S87)) (a1 : Int) : Option (Int × (List (S87))) := laws_markAttrS.l0 k l0 a1 0
set_option maxHeartbeats 8000000 in
set_option maxRecDepth 100000 in
theorem laws_markAttrS.calls (k : Nat) (P0_ : Nat → Prop) (u9000_ : Value) (l0 : List (S87)) (a1 : Int) (r1 : Int) (r2 : List (S87)) (w0 w : World) (hB : Below w0.heap.size w0 w) (ho0 : Kd.R k87 87 w w0.heap.size P0_ u9000_ l0) (h : laws_markAttrS.f k l0 a1 = some (r1, r2)) :
  Calls Tryd.prog 76 #[u9000_, .int .i64 a1] w fun e w' => e = .returned (.int .i64 r1) ∧ Kd.R k87 87 w' w0.heap.size (fun k_ => (P0_ k_ ∨ w.heap.size ≤ k_)) u9000_ r2 ∧ Below w0.heap.size w0 w' ∧ Kept w w' (fun k_ => P0_ k_) := by
 have HO0 := Aside0.mk (show Kd.R k87 87 w w0.heap.size (fun k_ => (P0_ k_ ∨ w.heap.size ≤ k_)) u9000_ l0 from Kd.R_mono ho0 (fun k_ hk => (.inl hk)))
 have HK := Aside0.mk (Kept.refl w (fun k_ => P0_ k_))
 have HW0 := Aside0.mk hB.size
 have HB := Aside0.mk hB
 clear hB
 unfold laws_markAttrS.f at h
 have H := h
 clear h
 have H' := Aside0.mk H
 clear H
 go_enter Tryd.func76, Tryd.ntmps76
 go_wp2
 go_loopg [1, 5] k (fun kq v1 v5 w' => ∃ (x0_1 : List (S87)) (x1_1 : Int) (x5_1 : Int), v1 = .int .i64 x1_1 ∧ v5 = .int .i64 x5_1 ∧ Aside0 (laws_markAttrS.l0 kq x0_1 x1_1 x5_1 = some (r1, r2)) ∧ Aside0 (kq ≤ k) ∧ Aside0 (Kd.R k87 87 w' w0.heap.size (fun k_ => (P0_ k_ ∨ w.heap.size ≤ k_)) u9000_ x0_1) ∧ Aside0 (Kept w w' (fun k_ => P0_ k_)) ∧ Aside0 (Below w0.heap.size w0 w'))
 case atStart => exact ⟨(l0), (a1), (0), oS, oS, H', ⟨Nat.le_refl _⟩, ⟨oR HO0⟩, ⟨oK⟩, ⟨oB⟩⟩
 case round =>
  clear H'
  obtain ⟨x0_1, x1_1, x5_1, rfl, rfl, HA, HK1, HO_0, HK, HB⟩ := hrel
  cases gk with
  | zero => exact absurd HA.out (by simp [laws_markAttrS.l0])
  | succ k1 =>
   have H := HA.out
   clear HA
   simp only [laws_markAttrS.l0] at H
   replace H := itD H
   rcases H with ⟨c3b0, H⟩ | ⟨c3b0, H⟩
   ·replace H := bA H
    obtain ⟨t489, A4, H⟩ := H
    try dsimp only at H
    replace H := itD H
    rcases H with ⟨c5b0, H⟩ | ⟨c5b0, H⟩
    ·obtain ⟨y490, hy490⟩ : ∃ y_ : List (S87), y_ = (x0_1.set (x5_1 : Int).toNat (⟨t489, (rd_T87 x0_1 x5_1).f1⟩ : S87)) := ⟨_, rfl⟩
     replace H : ((laws_markText.f k1 (wrap64 (x1_1 + 1))).bind fun t491 => (laws_markAttrS.l0 k1 (y490.set (x5_1 : Int).toNat (⟨(rd_T87 y490 x5_1).f0, t491⟩ : S87)) (wrap64 ((wrap64 (x1_1 + 1)) + 1)) (wrap64 (x5_1 + 1)))) = some (r1, r2) := by first | (rw [hy490]; with_reducible exact H) | (have H2_ := (Option.bind_some _ _).symm.trans H; rw [hy490]; with_reducible exact H2_) | (have H2_ := (Option.bind_some _ _).symm.trans H; with_reducible exact H2_) | with_reducible exact H | (rw [hy490]; exact H) | exact H
     have Ny490 := Aside0.mk hy490
     clear hy490
     replace H := bA H
     obtain ⟨t491, A7, H⟩ := H
     try dsimp only at H
     obtain ⟨y492, hy492⟩ : ∃ y_ : List (S87), y_ = (y490.set (x5_1 : Int).toNat (⟨(rd_T87 y490 x5_1).f0, t491⟩ : S87)) := ⟨_, rfl⟩
     replace H : (laws_markAttrS.l0 k1 y492 (wrap64 ((wrap64 (x1_1 + 1)) + 1)) (wrap64 (x5_1 + 1))) = some (r1, r2) := by first | (rw [hy492]; with_reducible exact H) | (have H2_ := (Option.bind_some _ _).symm.trans H; rw [hy492]; with_reducible exact H2_) | (have H2_ := (Option.bind_some _ _).symm.trans H; with_reducible exact H2_) | with_reducible exact H | (rw [hy492]; exact H) | exact H
     have Ny492 := Aside0.mk hy492
     clear hy492
     have H' := Aside0.mk H
     clear H
     obtain ⟨Ao9, co9, eo9⟩ := Kd.R_slice HO_0.out
     subst eo9
     go_wp2_with (first | ((with_reducible refine gate_callee (f := 56) rfl ?_); refine gl_ 15 Tryd.func56 (laws_markText.calls k1 x1_1 t489 _ A4.out) ?_; rintro e w10 ⟨rfl, hb⟩; refine ⟨_, rfl, ?_⟩; replace HO_0 := kr_ HO_0 hb; replace HK := Aside0.mk (Kept.below (S := (fun k_ => P0_ k_)) oK hb); replace HB := Aside0.mk (below_step oB hb); (try clear hk); have p6 : 0 ≤ (x5_1 : Int) := oa; have q6 : (x5_1 : Int) < ((x0_1.length : Int) : Int) := oa; obtain ⟨go6, co6, eo6, gb6, gl6, cl6, HG6⟩ := Kd.R_form HO_0.out (by omega); (first | cases eo6 | (injection eo6 with ea_ en_ ec_; (first | subst ea_ | (injection ea_ with ea_; subst ea_)); subst ec_; clear en_)); have GB6 := Aside0.mk gb6; have GG6 := Aside0.mk HG6; clear gb6 gl6 HG6; have HMgo6 := Aside0.mk (show (P0_ go6 ∨ w.heap.size ≤ go6) from (HO_0.out.1 _ rfl)); obtain ⟨ce6, hcl6, hM6, hcc6, hfr6⟩ := Kd.R_elem HO_0.out z87 (x5_1 : Int) p6 q6; obtain rfl := k87_openM hM6; have hx6_0 : w10.cell? ⟨go6, (x5_1 : Int).toNat * 2, none⟩ = some (.string ((rd_T87 x0_1 x5_1).f0)) := hcc6 0 _ rfl; have hx6_1 : w10.cell? ⟨go6, (x5_1 : Int).toNat * 2 + 1, none⟩ = some (.string ((rd_T87 x0_1 x5_1).f1)) := hcc6 1 _ rfl; have hf6_0 : w10.frozen? ⟨go6, (x5_1 : Int).toNat * 2, none⟩ = false := hfr6 0; have hf6_1 : w10.frozen? ⟨go6, (x5_1 : Int).toNat * 2 + 1, none⟩ = false := hfr6 1; clear hcl6 hcc6 hfr6 hM6; replace p6 := eq_true p6; replace q6 := eq_true q6; have HX11 := Aside0.mk (show Kd.R k87 87 w10 w0.heap.size (fun k_ => (P0_ k_ ∨ w.heap.size ≤ k_)) (.slice (some ⟨go6, 0, none⟩) x0_1.length co9) x0_1 from (oR HO_0)); obtain ⟨ce11, hcl11, hM11, hcc11, hfr11⟩ := Kd.R_elem HX11.out z87 (x5_1 : Int) oa (by have h_ : (x5_1 : Int) < ((x0_1.length : Int) : Int) := oa; first | exact h_ | (have e_ := (Kd.R_reads' HO_0.out).1; omega) | simpa using h_); obtain rfl := k87_openM hM11; have HP11 := Kd.R_seg HX11.out (x5_1 : Int) oa (by have h_ : (x5_1 : Int) < ((x0_1.length : Int) : Int) := oa; first | exact h_ | (have e_ := (Kd.R_reads' HO_0.out).1; omega) | simpa using h_) (seg := [.string t489]) (j := 0) hcl11 hcc11 (show 1 ≤ 2 from by decide) (x' := (⟨t489, (rd_T87 x0_1 x5_1).f1⟩ : S87)) (k87_mkM _ _ _ (⟨t489, (rd_T87 x0_1 x5_1).f1⟩ : S87) ) (fun _ hk => hk); have hx11_0 := hcc11 0 _ rfl; (try simp only [show (k87).sz = 2 from rfl, Nat.mul_one, Nat.add_zero] at hx11_0); have hf11_0 := hfr11 0; (try simp only [show (k87).sz = 2 from rfl, Nat.mul_one, Nat.add_zero] at hf11_0); clear hcl11 hcc11 hfr11 hM11) | ((with_reducible refine gate_store (t := 9) (p := 17) rfl ?_); refine store_event (t := 9) (p := 17) (v := ?vo_w12) (w1 := (w10.setCell ⟨go6, (x5_1 : Int).toNat * 2, none⟩ (.string t489))) ?hg ?ho ?hn ?hr ?_; (case ho => rfl); (case hg => rfl); (case hn => rfl); (case hr => first | (go_simp; done) | (go_simp; rfl)); intro w12 hw; have hg : w10.grownBy w12 (some go6) := (by rw [hw]; exact HP11.2); have hp_ : Kd.R k87 87 w12 w0.heap.size (fun k_ => (P0_ k_ ∨ w.heap.size ≤ k_)) (.slice (some ⟨go6, 0, none⟩) x0_1.length co9) y490 := (by rw [hw, Ny490.out]; exact HP11.1); clear HP11; replace HO_0 := Aside0.mk (hp_); replace HK := Aside0.mk (Kept.of_grown (S := (fun k_ => P0_ k_)) hg oK (fun k_ e_ => (HO_0.out.1 k_ e_))); replace HB := Aside0.mk ((by rw [hw]; exact below_set (HB.out) GB6.out : Below w0.heap.size w0 w12)); clear hg hw hp_) | ((with_reducible refine gate_callee (f := 56) rfl ?_); refine gl_ 23 Tryd.func56 (laws_markText.calls k1 (wrap64 (x1_1 + 1)) t491 _ A7.out) ?_; rintro e w13 ⟨rfl, hb⟩; refine ⟨_, rfl, ?_⟩; replace HO_0 := kr_ HO_0 hb; replace HK := Aside0.mk (Kept.below (S := (fun k_ => P0_ k_)) oK hb); replace HB := Aside0.mk (below_step oB hb); (try clear hk); have p8 : (0 ≤ (x5_1 : Int)) = True := oT; have q8 : ((x5_1 : Int) < ((x0_1.length : Int) : Int)) = True := oT; obtain ⟨ce8, hcl8, hM8, hcc8, hfr8⟩ := Kd.R_elem HO_0.out z87 (x5_1 : Int) oa oa; obtain rfl := k87_openM hM8; have hx8_0 : w13.cell? ⟨go6, (x5_1 : Int).toNat * 2, none⟩ = some (.string ((rd_T87 y490 x5_1).f0)) := hcc8 0 _ rfl; have hx8_1 : w13.cell? ⟨go6, (x5_1 : Int).toNat * 2 + 1, none⟩ = some (.string ((rd_T87 y490 x5_1).f1)) := hcc8 1 _ rfl; have hf8_0 : w13.frozen? ⟨go6, (x5_1 : Int).toNat * 2, none⟩ = false := hfr8 0; have hf8_1 : w13.frozen? ⟨go6, (x5_1 : Int).toNat * 2 + 1, none⟩ = false := hfr8 1; clear hcl8 hcc8 hfr8 hM8; have HX14 := Aside0.mk (show Kd.R k87 87 w13 w0.heap.size (fun k_ => (P0_ k_ ∨ w.heap.size ≤ k_)) (.slice (some ⟨go6, 0, none⟩) x0_1.length co9) y490 from (oR HO_0)); obtain ⟨ce14, hcl14, hM14, hcc14, hfr14⟩ := Kd.R_elem HX14.out z87 (x5_1 : Int) oa (by have h_ : (x5_1 : Int) < ((x0_1.length : Int) : Int) := oa; first | exact h_ | (have e_ := (Kd.R_reads' HO_0.out).1; omega) | simpa using h_); obtain rfl := k87_openM hM14; have HP14 := Kd.R_seg HX14.out (x5_1 : Int) oa (by have h_ : (x5_1 : Int) < ((x0_1.length : Int) : Int) := oa; first | exact h_ | (have e_ := (Kd.R_reads' HO_0.out).1; omega) | simpa using h_) (seg := [.string t491]) (j := 1) hcl14 hcc14 (show 2 ≤ 2 from by decide) (x' := (⟨(rd_T87 y490 x5_1).f0, t491⟩ : S87)) (k87_mkM _ _ _ (⟨(rd_T87 y490 x5_1).f0, t491⟩ : S87) ) (fun _ hk => hk); have hx14_1 := hcc14 1 _ rfl; (try simp only [show (k87).sz = 2 from rfl, Nat.mul_one, Nat.add_zero] at hx14_1); have hf14_1 := hfr14 1; (try simp only [show (k87).sz = 2 from rfl, Nat.mul_one, Nat.add_zero] at hf14_1); clear hcl14 hcc14 hfr14 hM14) | ((with_reducible refine gate_store (t := 9) (p := 25) rfl ?_); refine store_event (t := 9) (p := 25) (v := ?vo_w15) (w1 := (w13.setCell ⟨go6, (x5_1 : Int).toNat * 2 + 1, none⟩ (.string t491))) ?hg ?ho ?hn ?hr ?_; (case ho => rfl); (case hg => rfl); (case hn => rfl); (case hr => first | (go_simp; done) | (go_simp; rfl)); intro w15 hw; have hg : w13.grownBy w15 (some go6) := (by rw [hw]; exact HP14.2); have hp_ : Kd.R k87 87 w15 w0.heap.size (fun k_ => (P0_ k_ ∨ w.heap.size ≤ k_)) (.slice (some ⟨go6, 0, none⟩) x0_1.length co9) y492 := (by rw [hw, Ny492.out]; exact HP14.1); clear HP14; replace HO_0 := Aside0.mk (hp_); replace HK := Aside0.mk (Kept.of_grown (S := (fun k_ => P0_ k_)) hg oK (fun k_ e_ => (HO_0.out.1 k_ e_))); replace HB := Aside0.mk ((by rw [hw]; exact below_set (HB.out) GB6.out : Below w0.heap.size w0 w15)); clear hg hw hp_))
     go_roundg k1
     case measure => have := HK1.out; omega
     case rel => exact ⟨(y492), (wrap64 ((wrap64 (x1_1 + 1)) + 1)), (wrap64 (x5_1 + 1)), oS, oS, H', ⟨by have := HK1.out; omega⟩, ⟨oR HO_0⟩, ⟨oK⟩, ⟨oB⟩⟩
    ·cases H
   ·simp only [Option.some.injEq, Prod.mk.injEq] at H
    obtain ⟨rfl, rfl⟩ := H
    obtain ⟨Ao16, co16, eo16⟩ := Kd.R_slice HO_0.out
    subst eo16
    go_wp2
    go_ret
    exact ⟨oE, oR HO_0, oB, oK⟩

/-! ### laws_markInodeS: function 71 -/
/-- An element of a row of inodes, lent: its cells, its rows, and the row without it. -/
structure MkS (w0 W : World) (ok : Nat → Prop) (g n co : Nat) (xs : List S64) (i : Nat) (oki : Nat → Prop) (v3 v4 v5 : Value) (y : S64) : Prop where
 lt : i < n
 h : Kd.H k64 64 W w0.heap.size ok (.slice (some ⟨g, 0, none⟩) n co) xs (i : Int) oki [.int .i64 y.f0, .int .i64 y.f1, .int .i64 y.f2, v3, v4, v5]
 r3 : (Kd.int .u8).R 5 W w0.heap.size oki v3 y.f3
 r4 : k91.R 91 W w0.heap.size oki v4 y.f4
 r5 : k87.R 87 W w0.heap.size oki v5 y.f5
 fr : ∀ j, W.frozen? ⟨g, i * 6 + j, none⟩ = false
 hg : ∀ k, oki k → ok k ∧ k ≠ g
section
variable {w0 W W' : World} {ok oki : Nat → Prop} {g n co i : Nat} {xs : List S64} {v3 v4 v5 : Value} {y : S64}
theorem MkS.start (hS : Kd.S k64 64 W w0.heap.size ok (.slice (some ⟨g, 0, none⟩) n co) xs) (hi : i < n) : ∃ oki v3 v4 v5, MkS w0 W ok g n co xs i oki v3 v4 v5 (rd_T64 xs (i : Int)) := by
 obtain ⟨oki, c, hcl, hM, hcc, hfr, hoki, hH⟩ := Kd.S_elem hS z64 (i : Int) (by omega) (by omega)
 obtain ⟨v3, v4, v5, rfl, g3, g4, g5⟩ := k64_openM hM
 exact ⟨oki, v3, v4, v5, hi, hH, g3, g4, g5, hfr, hoki⟩
theorem MkS.cells (m : MkS w0 W ok g n co xs i oki v3 v4 v5 y) : W.cell? ⟨g, i * 6, none⟩ = some (.int .i64 y.f0) ∧ W.cell? ⟨g, i * 6 + 1, none⟩ = some (.int .i64 y.f1) ∧ W.cell? ⟨g, i * 6 + 2, none⟩ = some (.int .i64 y.f2) ∧ W.cell? ⟨g, i * 6 + 3, none⟩ = some v3 ∧ W.cell? ⟨g, i * 6 + 4, none⟩ = some v4 ∧ W.cell? ⟨g, i * 6 + 5, none⟩ = some v5 := by
 obtain ⟨_, _, _, _, _, hcc, _⟩ := Kd.H_raw m.h (by omega) (by have := m.lt; omega)
 exact ⟨hcc 0 _ rfl, hcc 1 _ rfl, hcc 2 _ rfl, hcc 3 _ rfl, hcc 4 _ rfl, hcc 5 _ rfl⟩
theorem MkS.typed (m : MkS w0 W ok g n co xs i oki v3 v4 v5 y) : ∃ cells, W.heap[g]? = some (.cells cells 64 (0, 0)) := by
 obtain ⟨_, f, hR⟩ := m.h
 exact Kd.R_typed hR g (by simp [Value.ownBlock])
theorem MkS.okg (m : MkS w0 W ok g n co xs i oki v3 v4 v5 y) : ok g := by
 obtain ⟨_, f, hR⟩ := m.h
 exact (hR.1 g (by simp [Value.ownBlock])).1
theorem MkS.base (m : MkS w0 W ok g n co xs i oki v3 v4 v5 y) : w0.heap.size ≤ g := by
 obtain ⟨_, f, hR⟩ := m.h
 exact Kd.R_base hR g (by simp [Value.ownBlock])
theorem MkS.back (m : MkS w0 W ok g n co xs i oki v3 v4 v5 y) : Kd.S k64 64 W w0.heap.size ok (.slice (some ⟨g, 0, none⟩) n co) (xs.set i y) := by
 have := Kd.H_back m.h (k64_mkM W w0.heap.size oki y m.r3 m.r4 m.r5) (fun _ hk => hk)
 simpa using this
theorem MkS.frset (m : MkS w0 W ok g n co xs i oki v3 v4 v5 y) (j : Nat) (u : Value) : ∀ q, (W.setCell ⟨g, i * 6 + j, none⟩ u).frozen? ⟨g, i * 6 + q, none⟩ = false := by
 intro q
 obtain ⟨cs, hc⟩ := m.typed
 exact blk_frozen (blk_set hc _ _) _
theorem MkS.set0 (m : MkS w0 W ok g n co xs i oki v3 v4 v5 y) (a : Int) : MkS w0 (W.setCell ⟨g, i * 6, none⟩ (.int .i64 a)) ok g n co xs i oki v3 v4 v5 ⟨a, y.f1, y.f2, y.f3, y.f4, y.f5⟩ :=
 ⟨m.lt, (Kd.H_seg m.h (seg := [.int .i64 a]) (j := 0) (by omega) (by have := m.lt; omega) (show 1 ≤ 6 by decide) (by simp; rfl)).1, Kd.R_far m.r3 (fun k hk => (m.hg k hk).2) _, Kd.R_far m.r4 (fun k hk => (m.hg k hk).2) _, Kd.R_far m.r5 (fun k hk => (m.hg k hk).2) _, m.frset 0 _, m.hg⟩
theorem MkS.set1 (m : MkS w0 W ok g n co xs i oki v3 v4 v5 y) (a : Int) : MkS w0 (W.setCell ⟨g, i * 6 + 1, none⟩ (.int .i64 a)) ok g n co xs i oki v3 v4 v5 ⟨y.f0, a, y.f2, y.f3, y.f4, y.f5⟩ :=
 ⟨m.lt, (Kd.H_seg m.h (seg := [.int .i64 a]) (j := 1) (by omega) (by have := m.lt; omega) (show 2 ≤ 6 by decide) (by simp; rfl)).1, Kd.R_far m.r3 (fun k hk => (m.hg k hk).2) _, Kd.R_far m.r4 (fun k hk => (m.hg k hk).2) _, Kd.R_far m.r5 (fun k hk => (m.hg k hk).2) _, m.frset 1 _, m.hg⟩
theorem MkS.set2 (m : MkS w0 W ok g n co xs i oki v3 v4 v5 y) (a : Int) : MkS w0 (W.setCell ⟨g, i * 6 + 2, none⟩ (.int .i64 a)) ok g n co xs i oki v3 v4 v5 ⟨y.f0, y.f1, a, y.f3, y.f4, y.f5⟩ :=
 ⟨m.lt, (Kd.H_seg m.h (seg := [.int .i64 a]) (j := 2) (by omega) (by have := m.lt; omega) (show 3 ≤ 6 by decide) (by simp; rfl)).1, Kd.R_far m.r3 (fun k hk => (m.hg k hk).2) _, Kd.R_far m.r4 (fun k hk => (m.hg k hk).2) _, Kd.R_far m.r5 (fun k hk => (m.hg k hk).2) _, m.frset 2 _, m.hg⟩
theorem MkS.frkept (m : MkS w0 W ok g n co xs i oki v3 v4 v5 y) {S : Nat → Prop} (hk : Kept W W' S) (hn : ¬ S g) : ∀ q, W'.frozen? ⟨g, i * 6 + q, none⟩ = false := by
 intro q
 obtain ⟨cs, hc⟩ := m.typed
 exact blk_frozen (blk_kept hc hk hn) _
theorem MkS.after3 (m : MkS w0 W ok g n co xs i oki v3 v4 v5 y) {l : List Int} (hk : Kept W W' (fun k => some k = v3.ownBlock)) (hr : (Kd.int .u8).R 5 W' w0.heap.size (fun k => some k = v3.ownBlock ∨ W.heap.size ≤ k) v3 l) : MkS w0 W' ok g n co xs i oki v3 v4 v5 ⟨y.f0, y.f1, y.f2, l, y.f4, y.f5⟩ := by
 obtain ⟨cs, hc⟩ := m.typed
 exact ⟨m.lt, Kd.H_kept m.h hk (fun k _ hn hs => hn (m.r3.1 k hs.symm)), Kd.R_reok rfl hr (fun k e => m.r3.1 k e), Kd.R_mono (Kd.R_kept (Kd.R_apart' m.r4 (Kd.R_typed m.r3) (by decide)) hk (fun k hk hs => hk.2 hs)) (fun _ hk => hk.1), Kd.R_mono (Kd.R_kept (Kd.R_apart' m.r5 (Kd.R_typed m.r3) (by decide)) hk (fun k hk hs => hk.2 hs)) (fun _ hk => hk.1), m.frkept hk (fun e => Kd.R_ne m.r3 hc (by decide) e), m.hg⟩
theorem MkS.after4 (m : MkS w0 W ok g n co xs i oki v3 v4 v5 y) {l : List S91} (hk : Kept W W' (fun k => some k = v4.ownBlock)) (hr : k91.R 91 W' w0.heap.size (fun k => some k = v4.ownBlock ∨ W.heap.size ≤ k) v4 l) : MkS w0 W' ok g n co xs i oki v3 v4 v5 ⟨y.f0, y.f1, y.f2, y.f3, l, y.f5⟩ := by
 obtain ⟨cs, hc⟩ := m.typed
 exact ⟨m.lt, Kd.H_kept m.h hk (fun k _ hn hs => hn (m.r4.1 k hs.symm)), Kd.R_mono (Kd.R_kept (Kd.R_apart' m.r3 (Kd.R_typed m.r4) (by decide)) hk (fun k hk hs => hk.2 hs)) (fun _ hk => hk.1), Kd.R_reok rfl hr (fun k e => m.r4.1 k e), Kd.R_mono (Kd.R_kept (Kd.R_apart' m.r5 (Kd.R_typed m.r4) (by decide)) hk (fun k hk hs => hk.2 hs)) (fun _ hk => hk.1), m.frkept hk (fun e => Kd.R_ne m.r4 hc (by decide) e), m.hg⟩
theorem MkS.after5 (m : MkS w0 W ok g n co xs i oki v3 v4 v5 y) {l : List S87} (hk : Kept W W' (fun k => some k = v5.ownBlock)) (hr : k87.R 87 W' w0.heap.size (fun k => some k = v5.ownBlock ∨ W.heap.size ≤ k) v5 l) : MkS w0 W' ok g n co xs i oki v3 v4 v5 ⟨y.f0, y.f1, y.f2, y.f3, y.f4, l⟩ := by
 obtain ⟨cs, hc⟩ := m.typed
 exact ⟨m.lt, Kd.H_kept m.h hk (fun k _ hn hs => hn (m.r5.1 k hs.symm)), Kd.R_mono (Kd.R_kept (Kd.R_apart' m.r3 (Kd.R_typed m.r5) (by decide)) hk (fun k hk hs => hk.2 hs)) (fun _ hk => hk.1), Kd.R_mono (Kd.R_kept (Kd.R_apart' m.r4 (Kd.R_typed m.r5) (by decide)) hk (fun k hk hs => hk.2 hs)) (fun _ hk => hk.1), Kd.R_reok rfl hr (fun k e => m.r5.1 k e), m.frkept hk (fun e => Kd.R_ne m.r5 hc (by decide) e), m.hg⟩
end
def markOne (k : Nat) (x : S64) (a : Int) : Option (Int × S64) :=
 (laws_markByteS.f k x.f3 (wrap64 (wrap64 (wrap64 (a + 1) + 1) + 1))).bind fun b => (laws_markEntS.f k x.f4 b.1).bind fun c => (laws_markAttrS.f k x.f5 c.1).bind fun d => some (d.1, ⟨a, wrap64 (a + 1), wrap64 (wrap64 (a + 1) + 1), b.2, c.2, d.2⟩)
def markR (k : Nat) : List S64 → Int → Option (Int × List S64)
 | [], a => some (a, [])
 | x :: l, a => (markOne k x a).bind fun p => (markR k l p.1).bind fun q => some (q.1, p.2 :: q.2)
def laws_markInodeS.f (k : Nat) (l0 : List S64) (a1 : Int) : Option (Int × List S64) := if (l0.length : Int) ≤ 9223372036854775807 then markR k l0 a1 else none
set_option maxHeartbeats 2000000 in
set_option maxRecDepth 100000 in
theorem laws_markInodeS.calls (k : Nat) (P0_ : Nat → Prop) (u9000_ : Value) (l0 : List S64) (a1 r1 : Int) (r2 : List S64) (w0 w : World) (hB : Below w0.heap.size w0 w) (ho0 : Kd.S k64 64 w w0.heap.size P0_ u9000_ l0) (h : laws_markInodeS.f k l0 a1 = some (r1, r2)) :
  Calls Tryd.prog 71 #[u9000_, .int .i64 a1] w fun e w' => e = .returned (.int .i64 r1) ∧ Kd.S k64 64 w' w0.heap.size (fun k_ => P0_ k_ ∨ w.heap.size ≤ k_) u9000_ r2 ∧ Below w0.heap.size w0 w' ∧ Kept w w' P0_ := by
 unfold laws_markInodeS.f at h
 split at h
 case isFalse => cases h
 case isTrue hl =>
 obtain ⟨A, co, rfl⟩ := Kd.S_slice ho0
 have HO := Aside0.mk (show Kd.S k64 64 w w0.heap.size (fun k_ => P0_ k_ ∨ w.heap.size ≤ k_) (.slice A l0.length co) l0 from Kd.S_mono ho0 (fun _ hk => .inl hk))
 have HB := Aside0.mk hB
 have HK := Aside0.mk (Kept.refl w P0_)
 have H' : Aside0 (∃ rest, markR k (l0.drop 0) a1 = some (r1, rest) ∧ r2 = [] ++ rest) := ⟨r2, h, rfl⟩
 have HW := Aside0.mk hB.size
 clear hB ho0 h
 have hl' : l0.length ≤ 9223372036854775807 := by omega
 clear hl
 go_enter Tryd.func71, Tryd.ntmps71
 go_wp2
 go_loopg [1, 5] l0.length (fun gg s1 s5 wr => ∃ (kk : Nat) (a : Int) (done : List S64), kk ≤ l0.length ∧ l0.length - kk ≤ gg ∧ s1 = .int .i64 a ∧ s5 = .int .i64 kk ∧ Aside0 (done.length = kk) ∧ Aside0 (∃ rest, markR k (l0.drop kk) a = some (r1, rest) ∧ r2 = done ++ rest) ∧ Aside0 (Kd.S k64 64 wr w0.heap.size (fun k_ => P0_ k_ ∨ w.heap.size ≤ k_) (.slice A l0.length co) (done ++ l0.drop kk)) ∧ Aside0 (Below w0.heap.size w0 wr) ∧ Aside0 (Kept w wr P0_))
 case atStart => exact ⟨0, a1, [], Nat.zero_le _, by omega, rfl, rfl, ⟨rfl⟩, H', HO, HB, HK⟩
 case round =>
  clear HO HB HK H'
  obtain ⟨kk, a, done, hkk, hgg, rfl, rfl, HD, HA, HO, HB, HK⟩ := hrel
  by_cases hlt : kk < l0.length
  ·have hltz : (kk : Int) < (l0.length : Int) := by omega
   have hnn : (0 : Int) ≤ (kk : Int) := by omega
   obtain ⟨rest, hm, hr2⟩ := HA.out
   clear HA
   have hx : rd_T64 (done ++ l0.drop kk) (kk : Int) = l0[kk] := by
    have hd := HD.out
    simp only [rd_T64, Int.toNat_natCast, List.getD_eq_getElem?_getD]
    rw [List.getElem?_append_right (by omega), hd, Nat.sub_self, List.drop_eq_getElem_cons hlt]
    rfl
   rw [List.drop_eq_getElem_cons hlt, markR] at hm
   replace hm := bA hm
   obtain ⟨⟨a', x'⟩, A1, hm⟩ := hm
   replace hm := bA hm
   obtain ⟨⟨b1, rest'⟩, A2, hm⟩ := hm
   simp only [Option.some.injEq, Prod.mk.injEq] at hm
   obtain ⟨rfl, rfl⟩ := hm
   have A1 := A1.out
   unfold markOne at A1
   replace A1 := bA A1
   obtain ⟨⟨k3, l3⟩, B3, A1⟩ := A1
   replace A1 := bA A1
   obtain ⟨⟨k4, l4⟩, B4, A1⟩ := A1
   replace A1 := bA A1
   obtain ⟨⟨k5, l5⟩, B5, A1⟩ := A1
   simp only [Option.some.injEq, Prod.mk.injEq] at A1
   obtain ⟨rfl, rfl⟩ := A1
   have HR2 := Aside0.mk hr2
   clear hr2
   obtain ⟨g, cap, ev, _, _, _⟩ := Kd.S_form HO.out (by have hd := HD.out; simp; omega)
   injection ev with ea en ec
   subst ea
   clear en
   subst ec
   obtain ⟨oki, v3, v4, v5, m⟩ := MkS.start HO.out hlt
   rw [hx] at m
   clear hx HO
   obtain ⟨c0_, c1_, c2_, c3_, c4_, c5_⟩ := m.cells
   have f0_ : wr.frozen? ⟨g, kk * 6, none⟩ = false := m.fr 0
   have f1_ : wr.frozen? ⟨g, kk * 6 + 1, none⟩ = false := m.fr 1
   have f2_ : wr.frozen? ⟨g, kk * 6 + 2, none⟩ = false := m.fr 2
   have m3 := ((m.set0 a).set1 (wrap64 (a + 1))).set2 (wrap64 (wrap64 (a + 1) + 1))
   have HB3 := Aside0.mk (((HB.out.setCell (p := ⟨g, kk * 6, none⟩) m.base (.int .i64 a)).setCell (p := ⟨g, kk * 6 + 1, none⟩) m.base (.int .i64 (wrap64 (a + 1)))).setCell (p := ⟨g, kk * 6 + 2, none⟩) m.base (.int .i64 (wrap64 (wrap64 (a + 1) + 1))))
   have HK3 := Aside0.mk (((HK.out.setCell (p := ⟨g, kk * 6, none⟩) m.okg (.int .i64 a)).setCell (p := ⟨g, kk * 6 + 1, none⟩) m.okg (.int .i64 (wrap64 (a + 1)))).setCell (p := ⟨g, kk * 6 + 2, none⟩) m.okg (.int .i64 (wrap64 (wrap64 (a + 1) + 1))))
   obtain ⟨A3, n3, e3⟩ := Kd.R_slice m.r3
   obtain ⟨A4, n4, e4⟩ := Kd.R_slice m.r4
   obtain ⟨A5, n5, e5⟩ := Kd.R_slice m.r5
   subst e3
   subst e4
   subst e5
   clear HB HK
   go_wp2_with (first
    | (go_at_call 43; refine (laws_markByteS.calls k _ _ _ _ k3 l3 w0 _ HB3.out (Kd.R_tight rfl m3.r3) B3.out).mono ?_; rintro e w4 ⟨rfl, hy, hb, hk⟩; have m4 := m3.after3 hk hy; have HB4 := Aside0.mk hb; have HK4 := Aside0.mk (HK3.out.then_ hk (fun q hs => (m3.hg q (m3.r3.1 q hs.symm)).1)); clear hb hk hy; obtain ⟨_, _, _, _, d4, d5⟩ := m4.cells)
    | (go_at_call 75; refine (laws_markEntS.calls k _ _ _ _ k4 l4 w0 _ HB4.out (Kd.R_tight rfl m4.r4) B4.out).mono ?_; rintro e w5 ⟨rfl, hy, hb, hk⟩; have m5 := m4.after4 hk hy; have HB5 := Aside0.mk hb; have HK5 := Aside0.mk (HK4.out.then_ hk (fun q hs => (m4.hg q (m4.r4.1 q hs.symm)).1)); clear hb hk hy; obtain ⟨_, _, _, _, _, e5⟩ := m5.cells)
    | (go_at_call 76; refine (laws_markAttrS.calls k _ _ _ _ k5 l5 w0 _ HB5.out (Kd.R_tight rfl m5.r5) B5.out).mono ?_; rintro e w6 ⟨rfl, hy, hb, hk⟩; have m6 := m5.after5 hk hy; have HB6 := Aside0.mk hb; have HK6 := Aside0.mk (HK5.out.then_ hk (fun q hs => (m5.hg q (m5.r5.1 q hs.symm)).1)); clear hb hk hy))
   go_roundg (l0.length - (kk + 1))
   case measure => omega
   case rel =>
    refine ⟨kk + 1, k5, done ++ [⟨a, wrap64 (a + 1), wrap64 (wrap64 (a + 1) + 1), l3, l4, l5⟩], by omega, by omega, rfl, by go_num, ⟨by have hd := HD.out; simp; omega⟩, ⟨rest', A2.out, by rw [HR2.out]; simp⟩, ⟨?_⟩, HB6, HK6⟩
    have hs := m6.back
    have hd := HD.out
    rw [List.set_append_right _ _ (by omega), hd, Nat.sub_self, List.drop_eq_getElem_cons hlt, List.set_cons_zero] at hs
    simpa using hs
  ·have hltz : ¬ (kk : Int) < (l0.length : Int) := by omega
   obtain rfl : kk = l0.length := by omega
   obtain ⟨rest, hm, hr2⟩ := HA.out
   rw [List.drop_length, markR] at hm
   simp only [Option.some.injEq, Prod.mk.injEq] at hm
   obtain ⟨rfl, rfl⟩ := hm
   subst hr2
   have HO1 := HO.out
   rw [List.drop_length] at HO1
   have HO2 := Aside0.mk HO1
   clear HO HO1 HA
   go_wp2
   go_ret
   exact ⟨rfl, by simpa using HO2.out, HB.out, HK.out⟩
/-! ### laws_markTab: function 42 -/
set_option maxHeartbeats 1000000 in
theorem laws_markTab.calls (k : Nat) (P0_ : Nat → Prop) (u : Value) (l0 : List S64) (a0 a1 r1 : Int) (r2 : List S64) (w0 w : World) (hB : Below w0.heap.size w0 w) (ho0 : Kd.S k64 64 w w0.heap.size P0_ u l0) (h : laws_markInodeS.f k l0 a1 = some (r1, r2)) :
  Calls Tryd.prog 42 #[.agg #[u, .int .i64 a0], .int .i64 a1] w fun e w' => e = .returned (.int .i64 r1) ∧ Kd.S k64 64 w' w0.heap.size (fun k_ => P0_ k_ ∨ w.heap.size ≤ k_) u r2 ∧ Below w0.heap.size w0 w' ∧ Kept w w' P0_ := by
 obtain ⟨A, co, rfl⟩ := Kd.S_slice ho0
 have HH := Aside0.mk h
 have hc := laws_markInodeS.calls k P0_ (.slice A l0.length co) l0 a1 r1 r2 w0 (w.alloc (.cells #[.slice A l0.length co, .int .i64 a0] 46)) (hB.alloc hB.size _) (Kd.S_alloc ho0 _) h
 have HC := Aside0.mk hc
 have HW := Aside0.mk hB.size
 clear h hc hB ho0
 go_enter Tryd.func42, Tryd.ntmps42
 go_wp2_with (go_at_call 71; refine HC.out.mono ?_; rintro e w1 ⟨rfl, hs, hb, hk⟩)
 go_ret
 exact ⟨rfl, Kd.S_mono hs (fun q hq => hq.imp_right (fun h => by simp at h; omega)), hb, (Kept.alloc (Kept.refl w P0_) _).then_ hk (fun q hq => .inl hq)⟩
/-! ### laws_heldByteS: function 44 -/
def laws_heldByteS.l0 : Nat → List Int → Int → Int → Option (Int)
 | 0, _, _, _ => none
 | k + 1, x0, x1, x5 => if x5 < (x0.length : Int) then (if 0 ≤ x5 then (if (rd x0 x5) = ((x1) % 256) then (laws_heldByteS.l0 k x0 (wrap64 (x1 + 1)) (wrap64 (x5 + 1))) else (some (-1))) else (none)) else (some x1)
def laws_heldByteS.f (k : Nat) (l0 : List Int) (a1 : Int) : Option (Int) := laws_heldByteS.l0 k l0 a1 0
set_option maxHeartbeats 8000000 in
set_option maxRecDepth 100000 in
theorem laws_heldByteS.calls (k : Nat) (A0 : Option Addr) (c0 : Nat) (l0 : List Int) (a1 : Int) (r : Int) (w : World) (hr0 : Kd.C (Kd.int .u8) w A0 l0.length l0) (hc0 : l0.length ≤ c0) (h : laws_heldByteS.f k l0 a1 = some r) :
  Calls Tryd.prog 44 #[.slice A0 l0.length c0, .int .i64 a1] w fun e w' => e = .returned (.int .i64 r) ∧ Drawn0 w w' := by
 have HR0 := Aside0.mk hr0
 have HC0 := Aside0.mk hc0
 clear hr0 hc0
 unfold laws_heldByteS.f at h
 have H := h
 clear h
 have H' := Aside0.mk H
 clear H
 go_enter Tryd.func44, Tryd.ntmps44
 go_wp2
 go_loopg [1, 5] k (fun kq v1 v5 w' => ∃ (x1_1 : Int) (x5_1 : Int), v1 = .int .i64 x1_1 ∧ v5 = .int .i64 x5_1 ∧ Aside0 (laws_heldByteS.l0 kq l0 x1_1 x5_1 = some r) ∧ Aside0 (kq ≤ k) ∧ Drawn0 w w')
 case atStart => exact ⟨(a1), (0), oS, oS, H', ⟨Nat.le_refl _⟩, oD⟩
 case round =>
  clear H'
  obtain ⟨x1_1, x5_1, rfl, rfl, HA, HK1, ⟨m1, rfl⟩⟩ := hrel
  cases gk with
  | zero => exact absurd HA.out (by simp [laws_heldByteS.l0])
  | succ k1 =>
   have H := HA.out
   clear HA
   simp only [laws_heldByteS.l0] at H
   replace H := itD H
   rcases H with ⟨c3b0, H⟩ | ⟨c3b0, H⟩
   ·replace H := itD H
    rcases H with ⟨c4b0, H⟩ | ⟨c4b0, H⟩
    ·by_cases c5 : (rd l0 x5_1) = ((x1_1) % 256)
     ·rw [if_pos c5] at H
      have c5b0 : ((rd l0 x5_1) == ((x1_1) % 256)) = true := beq_iff_eq.mpr c5
      have c5b1 : ((rd l0 x5_1) != ((x1_1) % 256)) = false := bne_eq_false_iff_eq.mpr c5
      clear c5
      have H' := Aside0.mk H
      clear H
      have p493 : (0 ≤ (x5_1 : Int)) = True := oT
      have q493 : (x5_1 < (l0.length : Int)) = True := oT
      obtain ⟨ad493, e493, hx493_0⟩ := Kd.at_int HR0.out x5_1 oa oa
      cases e493
      go_wp2
      go_roundg k1
      case measure => have := HK1.out; omega
      case rel => exact ⟨(wrap64 (x1_1 + 1)), (wrap64 (x5_1 + 1)), oS, oS, H', ⟨by have := HK1.out; omega⟩, oD⟩
     ·rw [if_neg c5] at H
      have c5b0 : ((rd l0 x5_1) == ((x1_1) % 256)) = false := beq_eq_false_iff_ne.mpr c5
      have c5b1 : ((rd l0 x5_1) != ((x1_1) % 256)) = true := bne_iff_ne.mpr c5
      obtain rfl := Option.some.inj H
      have p493 : (0 ≤ (x5_1 : Int)) = True := oT
      have q493 : (x5_1 < (l0.length : Int)) = True := oT
      obtain ⟨ad493, e493, hx493_0⟩ := Kd.at_int HR0.out x5_1 oa oa
      cases e493
      go_wp2
      go_ret
      exact ⟨oS, oD⟩
    ·cases H
   ·obtain rfl := Option.some.inj H
    go_wp2
    go_ret
    exact ⟨oS, oD⟩

/-! ### laws_FnExactReadFile: function 11 -/
def laws_FnExactReadFile.T12 : Bool × List (List Nat × List Nat) := (true, [([], []), ([], []), ([1], [1]), ([0, 2, 2], [0, 2]), ([3], [3])])
def laws_FnExactReadFile.B12 : List Nat := [0, 0, 2, 7, 15]
theorem laws_FnExactReadFile.tab12 : rtab .any (opsOf Tryd.f11 12) = laws_FnExactReadFile.T12 := by kernel_rfl
theorem laws_FnExactReadFile.bits12 : waitsOk laws_FnExactReadFile.T12.2 laws_FnExactReadFile.B12 = true := by kernel_rfl
theorem laws_heldByteS.calls' (k : Nat) (A0 : Option Addr) (c0 n : Nat) (l0 : List Int) (a1 r : Int) (w : World) (hn : l0.length = n) (hr0 : Kd.C (Kd.int .u8) w A0 l0.length l0) (hc0 : l0.length ≤ c0) (h : laws_heldByteS.f k l0 a1 = some r) :
  Calls Tryd.prog 44 #[.slice A0 n c0, .int .i64 a1] w fun e w' => e = .returned (.int .i64 r) ∧ Drawn0 w w' := by
 subst hn
 exact laws_heldByteS.calls k A0 c0 l0 a1 r w hr0 hc0 h
def laws_FnExactReadFile.f (k : Nat) (l0_0 : List S115) (a0_1 : Int) (a1 : ByteArray) (a2 : Int) (a3 : Int) : Option Bool :=
 if (a1.size : Int) > 1048576 then some true else (laws_szTab.f k l0_0 a0_1 1048576).bind fun R => if R < 0 then some true else
 (laws_toTab.f k l0_0 a0_1).bind fun t => (spec_ReadFile.f k t.1 t.2 a1 a2 a3).bind fun p => (impl_ReadFile.f k t.1 t.2 a1 a2 a3).bind fun s =>
 (laws_eqByteS.f k s.1 p.1).bind fun e1 => (laws_eqTab.f k t.1 t.2 t.1 t.2).bind fun e2 => (laws_markInodeS.f k t.1 1).bind fun mt =>
 (laws_markByteS.f k s.1 1).bind fun m => (laws_heldByteS.f k m.2 1).bind fun q =>
 if s.2 = p.2 ∧ e1 = true ∧ e2 = true ∧ ¬ mt.1 < 0 ∧ ¬ q < 0 ∧ q = m.1 ∧ m.2.length = s.1.length then some true else none
set_option maxHeartbeats 8000000 in
set_option maxRecDepth 100000 in
theorem laws_FnExactReadFile.calls (k : Nat) (A0_0 : Option Addr) (c0_0 : Nat) (l0_0 : List S115) (a0_1 : Int) (a1 : ByteArray) (a2 : Int) (a3 : Int) (r : Bool) (w : World) (hr0_0 : Kd.C k115 w A0_0 l0_0.length l0_0) (hc0_0 : l0_0.length ≤ c0_0) (h : laws_FnExactReadFile.f k l0_0 a0_1 a1 a2 a3 = some r) (hG : GOk w := by exact gk_ oB (by first | (with_reducible assumption) | assumption)) :
  Calls Tryd.prog 11 #[.agg #[.slice A0_0 l0_0.length c0_0, .int .i64 a0_1], .string a1, .int .i64 a2, .int .i64 a3] w fun e w' => e = .returned (.bool r) ∧ Below w.heap.size w w' := by
 have HG := Aside0.mk hG
 clear hG
 have HR0_0 := Aside0.mk hr0_0
 have HC0_0 := Aside0.mk hc0_0
 clear hr0_0 hc0_0
 have HB := Aside0.mk (Below.refl w.heap.size w)
 unfold laws_FnExactReadFile.f at h
 split at h
 case isTrue hg =>
  have cg0 : decide ((a1.size : Int) > 1048576) = true := decide_eq_true hg
  have dg0 : decide (1048576 < (a1.size : Int)) = true := decide_eq_true (by omega)
  obtain rfl := Option.some.inj h
  clear h hg
  go_enter Tryd.func11, Tryd.ntmps11
  go_wp2
  go_ret
  exact ⟨rfl, oB⟩
 case isFalse hg =>
 have cg0 : decide ((a1.size : Int) > 1048576) = false := decide_eq_false hg
 have dg0 : decide (1048576 < (a1.size : Int)) = false := decide_eq_false (by omega)
 clear hg
 replace h := bA h
 obtain ⟨R, H1, h⟩ := h
 split at h
 case isTrue hR =>
  have cR : decide (R < 0) = true := decide_eq_true hR
  obtain rfl := Option.some.inj h
  clear h hR
  go_enter Tryd.func11, Tryd.ntmps11
  go_wp2_with fail
  refine (laws_szTab.calls k _ _ l0_0 a0_1 1048576 R _ (kC HR0_0) HC0_0.out H1.out).mono ?_
  rintro e w1 ⟨rfl, hb⟩
  replace HB := Aside0.mk (below_step oB hb)
  go_wp2
  go_ret
  exact ⟨rfl, oB⟩
 case isFalse hR =>
 have cR : decide (R < 0) = false := decide_eq_false hR
 clear hR
 replace h := bA h
 obtain ⟨⟨tl, tn⟩, H2, h⟩ := h
 replace h := bA h
 obtain ⟨⟨p1, p2⟩, H3, h⟩ := h
 replace h := bA h
 obtain ⟨⟨s1, s2⟩, H4, h⟩ := h
 replace h := bA h
 obtain ⟨e1, H5, h⟩ := h
 replace h := bA h
 obtain ⟨e2, H6, h⟩ := h
 replace h := bA h
 obtain ⟨⟨mt, ml⟩, H7, h⟩ := h
 replace h := bA h
 obtain ⟨⟨mk, mg⟩, H8, h⟩ := h
 replace h := bA h
 obtain ⟨q, H9, h⟩ := h
 split at h
 case isFalse => cases h
 case isTrue hh =>
 try dsimp only at hh
 obtain ⟨rfl, rfl, rfl, hmt, hq, rfl, l4⟩ := hh
 obtain rfl := Option.some.inj h
 clear h
 have cm : decide (mt < 0) = false := decide_eq_false hmt
 have cq : decide (q < 0) = false := decide_eq_false hq
 clear hmt hq
 have L4 := Aside0.mk l4
 clear l4
 try dsimp only at H3 H4 H5 H6 H7 H8 H9 L4
 go_enter Tryd.func11, Tryd.ntmps11
 go_wp2_with fail
 refine (laws_szTab.calls k _ _ l0_0 a0_1 1048576 R _ (kC HR0_0) HC0_0.out H1.out).mono ?_
 rintro e w1 ⟨rfl, hb⟩
 have n1 : w.heap.size + 1 ≤ w1.heap.size := by have := hb.size; simpa using this
 have K_aT := bnew hb
 replace hb := bold hb
 replace HB := Aside0.mk (below_step oB hb)
 clear hb
 have Z_aT := z2 K_aT
 have Y_aT := zz2 K_aT
 go_wp2_with fail
 refine (laws_toTab.calls k _ _ l0_0 a0_1 tl tn _ (kC HR0_0) HC0_0.out H2.out).mono ?_
 rintro e w2 ⟨v_t0, rfl, h_t0, hb⟩
 obtain ⟨A_t0, c_t0, rfl⟩ := Kd.S_slice h_t0
 have S_t0 := siv' h_t0 (w1.heap.size) w.heap.size (by simp) (below_size oB)
 clear h_t0
 have n2 : w1.heap.size ≤ w2.heap.size := by have := hb.size; simpa using this
 replace K_aT := bstep K_aT hb
 replace HB := Aside0.mk (below_step oB hb)
 clear hb
 replace Z_aT := z2 K_aT
 replace Y_aT := zz2 K_aT
 go_wp2_with fail
 refine (spec_ReadFile.calls k _ _ tl tn a1 a2 a3 p1 s2 _ (rS S_t0) (rl S_t0) H3.out).mono ?_
 rintro e w3 ⟨v_w0, rfl, h_w0, hb⟩
 obtain ⟨A_w0, c_w0, rfl⟩ := Kd.R_slice h_w0
 have S_w0 := riv' h_w0 (w2.heap.size) w.heap.size (by simp) (below_size oB)
 clear h_w0
 have n3 : w2.heap.size ≤ w3.heap.size := by have := hb.size; simpa using this
 replace K_aT := bstep K_aT hb
 replace S_t0 := sb S_t0 hb
 replace HB := Aside0.mk (below_step oB hb)
 clear hb
 replace Z_aT := z2 K_aT
 replace Y_aT := zz2 K_aT
 clear S_t0
 go_wp2_with fail
 refine (laws_toTab.calls k _ _ l0_0 a0_1 tl tn _ (kC HR0_0) HC0_0.out H2.out).mono ?_
 rintro e w4 ⟨v_x0, rfl, h_x0, hb⟩
 obtain ⟨A_x0, c_x0, rfl⟩ := Kd.S_slice h_x0
 have S_x0 := siv' h_x0 (w3.heap.size) w.heap.size (by simp) (below_size oB)
 clear h_x0
 have n4 : w3.heap.size ≤ w4.heap.size := by have := hb.size; simpa using this
 replace K_aT := bstep K_aT hb
 replace S_w0 := rb S_w0 hb
 replace HB := Aside0.mk (below_step oB hb)
 clear hb
 replace Z_aT := z2 K_aT
 replace Y_aT := zz2 K_aT
 go_wp2_with fail
 refine (impl_ReadFile.calls k _ _ tl tn a1 a2 a3 s1 s2 _ (rS S_x0) (rl S_x0) H4.out).mono ?_
 rintro e w5 ⟨v_g0, rfl, h_g0, hb⟩
 obtain ⟨A_g0, c_g0, rfl⟩ := Kd.R_slice h_g0
 have S_g0 := riv' h_g0 (w4.heap.size + 1) w.heap.size (by simp) (below_size oB)
 clear h_g0
 have n5 : w4.heap.size + 1 ≤ w5.heap.size := by have := hb.size; simpa using this
 have K_x0 := bnew hb
 replace hb := bold hb
 replace K_aT := bstep K_aT hb
 replace S_w0 := rb S_w0 hb
 replace S_x0 := sb S_x0 hb
 replace HB := Aside0.mk (below_step oB hb)
 clear hb
 replace Z_aT := z2 K_aT
 replace Y_aT := zz2 K_aT
 have Z_x0 := z2 K_x0
 have Y_x0 := zz2 K_x0
 go_wp2_with fail
 refine (laws_eqByteS.calls k _ _ s1 _ _ p1 true _ (kO S_g0) (rlR S_g0) (kO S_w0) (rlR S_w0) H5.out).mono ?_
 rintro e w6 ⟨rfl, hb⟩
 replace hb := Drawn0.below hb
 have n6 : w5.heap.size ≤ w6.heap.size := by have := hb.size; simpa using this
 replace K_aT := bstep K_aT hb
 replace K_x0 := bstep K_x0 hb
 replace S_w0 := rb S_w0 hb
 replace S_x0 := sb S_x0 hb
 replace S_g0 := rb S_g0 hb
 replace HB := Aside0.mk (below_step oB hb)
 clear hb
 replace Z_aT := z2 K_aT
 replace Y_aT := zz2 K_aT
 replace Z_x0 := z2 K_x0
 replace Y_x0 := zz2 K_x0
 go_wp2_with fail
 replace K_aT := bdrew K_aT
 replace K_x0 := bdrew K_x0
 replace S_w0 := rdrew S_w0
 replace S_x0 := sdrew S_x0
 replace S_g0 := rdrew S_g0
 replace HB := Aside0.mk (below_drew1 HB.out)
 have n7 : w6.heap.size ≤ w6.drew.heap.size := Nat.le_refl _
 clear Z_aT Y_aT Z_x0 Y_x0
 refine st_ 5 (fun w' => w'.cell? ⟨w4.heap.size, 0, none⟩ = some (.slice A_x0 tl.length c_x0) ∧ w'.cell? ⟨w4.heap.size, 1, none⟩ = some (.int .i64 tn) ∧ w'.cell? ⟨w.heap.size, 0, none⟩ = some (.slice A0_0 l0_0.length c0_0) ∧ w'.cell? ⟨w.heap.size, 1, none⟩ = some (.int .i64 a0_1)) laws_FnExactReadFile.tab12 laws_FnExactReadFile.bits12 oH (fun hHeld HT_ HW_ => ?_)
 generalize w6.drew = w7 at HB hHeld n7 K_aT K_x0 S_w0 S_x0 S_g0 ⊢
 refine ta_ 0 56 HT_ HW_ hHeld ?_
 refine ta_ 1 57 HT_ HW_ hHeld ?_
 refine on_ 2 58 HT_ (fun K hK => ?_)
 refine gr_ 58 Tryd.func34 (laws_toTab.calls k _ _ l0_0 a0_1 tl tn _ (kC HR0_0) HC0_0.out H2.out) ?_
 rintro e w8 ⟨v_y0, rfl, h_y0, hb⟩
 obtain ⟨A_y0, c_y0, rfl⟩ := Kd.S_slice h_y0
 have S_y0 := siv' h_y0 (w7.heap.size) w.heap.size (by simp) (below_size oB)
 clear h_y0
 refine ⟨_, rfl, ?_⟩
 have n8 : w7.heap.size ≤ w8.heap.size := by have := hb.size; simpa using this
 replace K_aT := bstep K_aT hb
 replace K_x0 := bstep K_x0 hb
 replace S_w0 := rb S_w0 hb
 replace S_x0 := sb S_x0 hb
 replace S_g0 := rb S_g0 hb
 replace HB := Aside0.mk (below_step oB hb)
 clear hb hHeld
 refine hk_ hK 58 oH (fun hHeld => ?_)
 clear hK K
 refine on_ 3 59 HT_ (fun K hK => ?_)
 refine gr_ 59 Tryd.func36 (laws_eqTab.calls k _ _ tl tn _ _ tl tn true _ (rS S_x0) (rl S_x0) (rS S_y0) (rl S_y0) H6.out) ?_
 rintro e w9 ⟨rfl, hb⟩
 refine ⟨_, rfl, ?_⟩
 have n9 : w8.heap.size ≤ w9.heap.size := by have := hb.size; simpa using this
 replace K_aT := bstep K_aT hb
 replace K_x0 := bstep K_x0 hb
 replace S_w0 := rb S_w0 hb
 replace S_x0 := sb S_x0 hb
 replace S_g0 := rb S_g0 hb
 replace S_y0 := sb S_y0 hb
 replace HB := Aside0.mk (below_step oB hb)
 clear hb hHeld
 refine hk_ hK 59 oH (fun hHeld => ?_)
 clear hK K
 refine pu_ 4 60 HT_ ?_
 refine dn_ HT_ ?_
 clear hHeld HT_ HW_
 have Z_aT := z2 K_aT
 have Y_aT := zz2 K_aT
 have Z_x0 := z2 K_x0
 have Y_x0 := zz2 K_x0
 clear S_y0
 go_wp2_with fail
 refine (laws_markTab.calls k _ _ tl tn 1 mt ml w _ HB.out S_x0.out H7.out).mono ?_
 rintro e w10 ⟨rfl, h_x0, hb, hk⟩
 have n10 : w9.heap.size ≤ w10.heap.size := hk.1
 replace S_w0 := rk S_w0 hk (fun q h h' => by omega)
 replace S_g0 := rk S_g0 hk (fun q h h' => by omega)
 replace K_aT := bkept K_aT hk (fun h => by omega)
 clear K_x0 Z_x0 Y_x0
 clear S_x0
 clear h_x0
 replace HB := Aside0.mk hb
 clear hb hk
 replace Z_aT := z2 K_aT
 replace Y_aT := zz2 K_aT
 go_wp2_with fail
 refine (laws_eqByteS.calls k _ _ s1 _ _ p1 true _ (kO S_g0) (rlR S_g0) (kO S_w0) (rlR S_w0) H5.out).mono ?_
 rintro e w11 ⟨rfl, hb⟩
 replace hb := Drawn0.below hb
 have n11 : w10.heap.size ≤ w11.heap.size := by have := hb.size; simpa using this
 replace K_aT := bstep K_aT hb
 replace S_w0 := rb S_w0 hb
 replace S_g0 := rb S_g0 hb
 replace HB := Aside0.mk (below_step oB hb)
 clear hb
 replace Z_aT := z2 K_aT
 replace Y_aT := zz2 K_aT
 go_wp2_with fail
 refine (laws_markByteS.calls k _ _ s1 1 q mg w _ HB.out S_g0.out H8.out).mono ?_
 rintro e w12 ⟨rfl, h_g0, hb, hk⟩
 have n12 : w11.heap.size ≤ w12.heap.size := hk.1
 replace S_w0 := rk S_w0 hk (fun q h h' => by omega)
 replace K_aT := bkept K_aT hk (fun h => by omega)
 replace S_g0 := Aside0.mk h_g0
 clear h_g0
 replace HB := Aside0.mk hb
 clear hb hk
 replace Z_aT := z2 K_aT
 replace Y_aT := zz2 K_aT
 go_wp2_with fail
 refine (laws_heldByteS.calls' k _ _ _ mg 1 q _ L4.out (kO S_g0) (rlR S_g0) H9.out).mono ?_
 rintro e w13 ⟨rfl, hb⟩
 replace hb := Drawn0.below hb
 have n13 : w12.heap.size ≤ w13.heap.size := by have := hb.size; simpa using this
 replace K_aT := bstep K_aT hb
 replace S_w0 := rb S_w0 hb
 replace S_g0 := rb S_g0 hb
 replace HB := Aside0.mk (below_step oB hb)
 clear hb
 replace Z_aT := z2 K_aT
 replace Y_aT := zz2 K_aT
 go_wp2_with fail
 refine (laws_toTab.calls k _ _ l0_0 a0_1 tl tn _ (kC HR0_0) HC0_0.out H2.out).mono ?_
 rintro e w14 ⟨v_z0, rfl, h_z0, hb⟩
 obtain ⟨A_z0, c_z0, rfl⟩ := Kd.S_slice h_z0
 have S_z0 := siv' h_z0 (w13.heap.size) w.heap.size (by simp) (below_size oB)
 clear h_z0
 have n14 : w13.heap.size ≤ w14.heap.size := by have := hb.size; simpa using this
 replace K_aT := bstep K_aT hb
 replace S_w0 := rb S_w0 hb
 replace S_g0 := rb S_g0 hb
 replace HB := Aside0.mk (below_step oB hb)
 clear hb
 replace Z_aT := z2 K_aT
 replace Y_aT := zz2 K_aT
 go_wp2_with fail
 refine (impl_ReadFile.calls k _ _ tl tn a1 a2 a3 s1 s2 _ (rS S_z0) (rl S_z0) H4.out).mono ?_
 rintro e w15 ⟨v_h0, rfl, h_h0, hb⟩
 obtain ⟨A_h0, c_h0, rfl⟩ := Kd.R_slice h_h0
 have S_h0 := riv' h_h0 (w14.heap.size) w.heap.size (by simp) (below_size oB)
 clear h_h0
 have n15 : w14.heap.size ≤ w15.heap.size := by have := hb.size; simpa using this
 replace K_aT := bstep K_aT hb
 replace S_w0 := rb S_w0 hb
 replace S_g0 := rb S_g0 hb
 replace S_z0 := sb S_z0 hb
 replace HB := Aside0.mk (below_step oB hb)
 clear hb
 replace Z_aT := z2 K_aT
 replace Y_aT := zz2 K_aT
 go_wp2_with fail
 refine (laws_eqByteS.calls k _ _ s1 _ _ p1 true _ (kO S_h0) (rlR S_h0) (kO S_w0) (rlR S_w0) H5.out).mono ?_
 rintro e w16 ⟨rfl, hb⟩
 replace hb := Drawn0.below hb
 have n16 : w15.heap.size ≤ w16.heap.size := by have := hb.size; simpa using this
 replace K_aT := bstep K_aT hb
 replace S_w0 := rb S_w0 hb
 replace S_g0 := rb S_g0 hb
 replace S_z0 := sb S_z0 hb
 replace S_h0 := rb S_h0 hb
 replace HB := Aside0.mk (below_step oB hb)
 clear hb
 replace Z_aT := z2 K_aT
 replace Y_aT := zz2 K_aT
 go_wp2_with fail
 refine (laws_heldByteS.calls' k _ _ _ mg 1 q _ L4.out (kO S_g0) (rlR S_g0) H9.out).mono ?_
 rintro e w17 ⟨rfl, hb⟩
 replace hb := Drawn0.below hb
 have n17 : w16.heap.size ≤ w17.heap.size := by have := hb.size; simpa using this
 replace K_aT := bstep K_aT hb
 replace S_w0 := rb S_w0 hb
 replace S_g0 := rb S_g0 hb
 replace S_z0 := sb S_z0 hb
 replace S_h0 := rb S_h0 hb
 replace HB := Aside0.mk (below_step oB hb)
 clear hb
 replace Z_aT := z2 K_aT
 replace Y_aT := zz2 K_aT
 go_wp2_with fail
 go_ret
 exact ⟨rfl, oB⟩
end Go.Proofs.YtkfcmpalbhmmaaaDoor.P
