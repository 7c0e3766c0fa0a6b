-- By this session's own program (wip/myprint.py) out of the translation; Lean checks it.
import Derived.Test.YtkcfmbggdkkfeaaGreatDoorPx0
namespace Go.Proofs.YtkcfmbggdkkfeaaGreatDoor.P
open Go.RowKit Go.Proofs.YtkcfmbggdkkfeaaGreatDoorW.PrintWords Go.Proofs.YtkcfmbggdkkfeaaGreatDoorW.PrintLast Go.Proofs.YtkcfmbggdkkfeaaGreatDoorW.PrintMore
attribute [local go_sem] max2_int min2_int max_two min_two max_three min_three max_four min_four   -- for this text's walks alone
set_option linter.unusedVariables false
set_option linter.unusedSimpArgs false

/-! ### slices_Delete_Attr: function 55 -/
theorem step_app {P : Program} {ops : Array Oper} {o : Oper} {a : Act} {w : World} {K : Act → World → Prop} {Q : Exit → Act → World → Prop} {E : Prop}
  (hg : o.guard = none) (d x : Operand) (t : TypeId) (hop : o.op = Op.call { callee := Callee.builtin Builtin.append, args := #[d, x], argTypes := #[t, t] })
  (v u : Value) (hd : a.eval d = v) (hx : a.eval x = u) {v' : Value} {w' : World} (hr : (Builtin.append_ #[t, t] o.type #[v, u]).run P w = .ok v' w') (hK : K (a.put o.dst v') w') :
  if Region.wanted o (yielded ops a.tmps) = true then Oper.wp P o a w K Q else E := by
 have hw : Region.wanted o (yielded ops a.tmps) = true := by simp [Region.wanted, hg]
 rw [if_pos hw]
 unfold Oper.wp
 simp [execOp, hop, resolve, invoke, builtin, hd, hx, hr, Result.andThen]
 exact hK
/-- Cells behind a row's end, within its room, are written: the row is as it was. -/
theorem raw_past {e sz : Nat} {w : World} {P : Program} {base : Nat} {ok : Nat → Prop} {g n c : Nat} {rows : List (List Value)} (h : (Kd.raw sz).R e w base ok (.slice (some ⟨g, 0, none⟩) n c) rows) {zs : List Value} (hz : n * sz + zs.length ≤ c * sz) (h1 : ∀ v ∈ zs, v.oneCell' = true) :
  ∃ w1, (storeCells ⟨g, n * sz, none⟩ zs).run P w = .ok () w1 ∧ (Kd.raw sz).R e w1 base ok (.slice (some ⟨g, 0, none⟩) n c) rows ∧ w.grownBy w1 (some g) := by
 obtain ⟨hn, hnc, _⟩ := Kd.R_reads' h
 obtain ⟨h0, inner, ho, hr⟩ := h
 obtain ⟨ho1, ho2⟩ := ho
 rcases ho2 with ⟨hv, _⟩ | ⟨g', cap', cur, hv, hb, hh, hnc', hcm, hcs, ht⟩
 ·cases hv
 injection hv with ha _ hc
 injection ha with ha
 injection ha with hg
 subst hg; subst hc
 have hcs' : cur.size = c * sz := hcs
 have hfit : n * sz + zs.length ≤ cur.size := by omega
 obtain ⟨cur', h3, h4, h5⟩ := setCells_row zs (n * sz) w cur hh hfit
 obtain ⟨s1, s2, s3, s4⟩ := setCells_same g zs (n * sz) w
 have hfar : ∀ k, k ≠ g → (w.setCells g (n * sz) zs).heap[k]? = w.heap[k]? := fun k hk => setCells_far zs _ k hk
 refine ⟨w.setCells g (n * sz) zs, ?_, ?_, ⟨s1, s2, s3, by rw [s4]; exact Nat.le_refl _, fun k _ hk => hfar k (fun he => hk (by rw [he]))⟩⟩
 ·have := run_storeCells_cells (P := P) g (n * sz) zs 0 w (fun j hj => by rw [cell_of_row w g _ cur e (0, 0) hh, Array.getElem?_eq_getElem (by omega)]; rfl) (fun j _ => blk_frozen hh _) h1
  simpa using this
 ·refine ⟨h0, inner, ⟨ho1, .inr ⟨g, c, cur', by rw [hn], hb, h3, hnc', hcm, by rw [h4]; exact hcs, ?_⟩⟩, ?_⟩
  ·rw [← ht, h5]
   have hil : rows.length * (Kd.raw sz).sz = n * sz := by rw [← hn]; rfl
   rw [hil, List.append_assoc, List.take_append_of_le_length (by rw [List.length_take, Array.length_toList]; omega), List.take_take, Nat.min_self]
  ·exact ⟨hr.1, fun j p hj => hr.2 j p hj⟩
def encA (x : S71) : List Value := [.string x.f0, .string x.f1]
def zAttr : Value := .agg #[.string ⟨#[]⟩, .string ⟨#[]⟩]
theorem zAttr_run (w : World) : (zeroValue 71).run Tryz.prog w = .ok zAttr w := by kernel_rfl
theorem infoA : (Tryz.prog.info? 71).map (·.size) = some 2 := by kernel_rfl
set_option maxHeartbeats 4000000 in
set_option maxRecDepth 100000 in
/-- slices.Delete of one attribute, in place. -/
theorem attDel.calls (g m c i b0 : Nat) (ok : Nat → Prop) (rows : List (List Value)) (w : World) (hi : i ≤ m) (hm : rows.length = m + 1) (hc63 : c ≤ 9223372036854775807) (HR : (Kd.raw 2).R 71 w b0 ok (.slice (some ⟨g, 0, none⟩) (m + 1) c) rows) :
  Calls Tryz.prog 55 #[.slice (some ⟨g, 0, none⟩) ((m + 1 : Nat) : Int).toNat c, .int .i64 i, .int .i64 ((i + 1 : Nat) : Int)] w fun e w' => e = .returned (.slice (some ⟨g, 0, none⟩) m c) ∧ (Kd.raw 2).R 71 w' b0 ok (.slice (some ⟨g, 0, none⟩) m c) (rows.eraseIdx i) ∧ w.grownBy w' (some g) := by
 rw [show ((m + 1 : Nat) : Int).toNat = m + 1 from rfl]
 have hnc : m + 1 ≤ c := (Kd.R_reads' HR).2.1
 obtain ⟨i0, hi0, hsz⟩ := Option.map_eq_some_iff.1 infoA
 have hic : i ≤ c := by omega
 have hjc : i + 1 ≤ c := by omega
 have hjn : i + 1 ≤ m + 1 := by omega
 have hne : i ≠ i + 1 := by omega
 have hmc : m ≤ c := by omega
 have hcm : ¬ c = m := by omega
 obtain ⟨A, hA, hA2⟩ : ∃ A : Addr, (if c = i + 1 then (some ⟨g, 0, none⟩ : Option Addr) else some ⟨g, (i + 1) * 2, none⟩) = some A ∧ some A = (if c = i + 1 then some ⟨g, 0, none⟩ else (some (⟨g, 0, none⟩ : Addr)).map (·.add ((i + 1) * (Kd.raw 2).sz))) := by
  by_cases h : c = i + 1
  ·exact ⟨⟨g, 0, none⟩, by rw [if_pos h], by rw [if_pos h]⟩
  ·exact ⟨⟨g, (i + 1) * 2, none⟩, by rw [if_neg h], by rw [if_neg h]; simp [Addr.add]; rfl⟩
 obtain ⟨w1, hrun, hr1, hg1⟩ := Kd.R_delete_run (P := Tryz.prog) (Kd.raw 2) b0 49 49 71 i0 (by kernel_rfl) hi0 hsz (Kd.R_drew HR) (show i < m + 1 by omega) hA2 (c - (i + 1))
 rw [Nat.add_sub_cancel, Nat.add_sub_add_right] at hrun
 rw [Nat.add_sub_cancel] at hr1
 obtain ⟨w2, hst, hr2, hg2⟩ := raw_past (P := Tryz.prog) (zs := (Builtin.zeroCells zAttr.cells 1).toList) hr1 (by rw [Array.length_toList, size_zeroCells]; show m * 2 + 1 * 2 ≤ c * 2; omega) (zeroCells_one (by decide) _)
 have hcl := fun ty => run_clear (P := Tryz.prog) (ty := ty) (c := c - m) (show Tryz.prog.underlying 49 = some (.slice 71) by kernel_rfl) (zAttr_run w1) (show (1 : Nat) ≠ 0 by decide) (show (storeCells ⟨g, m * 2, none⟩ (Builtin.zeroCells zAttr.cells 1).toList).run Tryz.prog w1 = .ok () w2 from hst)
 have hone : m + 1 - m = 1 := by omega
 have h01 : (0 : Int) ≤ (i : Int) + 1 := by omega
 have mixed : Tryz.prog.follows .mixedOrders = true := by kernel_rfl
 clear hA2 hst HR hr1
 go_enter Tryz.func55, Tryz.ntmps55
 go_wp2_with fail
 go_region_law_o (refine step_app rfl (.tmp 22) (.tmp 25) 49 rfl (.slice (some ⟨g, 0, none⟩) i c) (.slice (some A) (m - i) (c - (i + 1))) (by simp [Act.eval, Act.put]) (by simp [Act.eval, Act.put]) hrun ?_)
 go_wp2_with ((with_reducible refine gate_builtin (b := .clear) rfl ?_); refine builtin_event (w1 := w2) rfl rfl rfl (v := .tuple #[]) ?hr ?_; (case hr => go_simp; rw [hcl 0]; rfl); (intro w3 hw; subst hw))
 go_ret
 exact ⟨rfl, hr2, ⟨hg2.os.trans hg1.os, hg2.tape.trans hg1.tape, hg2.output.trans hg1.output, Nat.le_trans hg1.size hg2.size, fun k hk hn => (hg2.block k (Nat.lt_of_lt_of_le hk hg1.size) hn).trans (hg1.block k hk hn)⟩⟩
def slices_Delete_Attr.f (l0 : List S71) (a1 a2 : Int) : Option (List S71) := if 0 ≤ a1 ∧ a2 = a1 + 1 ∧ a1 < (l0.length : Int) then some (l0.eraseIdx a1.toNat) else none
theorem erase_map {α β : Type} (f : α → β) (l : List α) (i : Nat) : (l.map f).eraseIdx i = (l.eraseIdx i).map f := by
 rw [List.eraseIdx_eq_take_drop_succ, List.eraseIdx_eq_take_drop_succ, List.map_append, List.map_take, List.map_drop]
/-- The row is the call's own, and it is cut in place. -/
theorem slices_Delete_Attr.calls (A : Option Addr) (c b0 : Nat) (ok : Nat → Prop) (l0 : List S71) (a1 a2 : Int) (r : List S71) (w : World) (ho : Kd.R k71 71 w b0 ok (.slice A l0.length c) l0) (h : slices_Delete_Attr.f l0 a1 a2 = some r) :
  Calls Tryz.prog 55 #[.slice A l0.length c, .int .i64 a1, .int .i64 a2] w fun e w' => ∃ v0_ : Value, e = .returned v0_ ∧ Kd.R k71 71 w' b0 ok v0_ r ∧ w.grownBy w' (Value.slice A l0.length c).ownBlock := by
 unfold slices_Delete_Attr.f at h
 split at h
 case isFalse => cases h
 case isTrue hc =>
 obtain ⟨h0, h2, h1⟩ := hc
 obtain rfl := Option.some.inj h
 obtain ⟨i, rfl⟩ : ∃ i : Nat, a1 = (i : Int) := ⟨a1.toNat, by omega⟩
 obtain ⟨m, hm⟩ : ∃ m : Nat, l0.length = m + 1 := ⟨l0.length - 1, by omega⟩
 have hraw := rawR (d := k71) encA (fun _ _ _ _ _ h => k71_openM h) ho
 obtain ⟨_, inner, ⟨_, hown⟩, _⟩ := ho
 rcases hown with ⟨he, hz⟩ | ⟨g, cap, cur, he, hbg, hh, hnc, hcm, _⟩
 ·omega
 injection he with ha _ hcc
 subst ha; subst hcc
 rw [hm] at hraw ⊢
 rw [show a2 = ((i + 1 : Nat) : Int) by omega]
 refine (attDel.calls g m c i b0 ok (l0.map encA) w (by omega) (by rw [List.length_map, hm]) hcm hraw).mono ?_
 rintro e w' ⟨rfl, hr, hg⟩
 rw [erase_map] at hr
 exact ⟨_, rfl, unrawR (d := k71) encA (fun _ _ _ x => k71_mkM _ _ _ x) hr, hg⟩
section
variable {α β : Type} {d : Kd α} {d2 : Kd β} {e e2 base b2 g t : Nat} {ok ok2 : Nat → Prop} {cs : Array Value} {w w0 w1 w2 : World} {u v : Value} {xs : List α} {ys : List β}
theorem gsS (h : Aside0 (Kd.S d e w base ok u xs)) (_ : Aside0 (Kd.R d2 e2 w b2 ok2 v ys)) (hg : w1.grownBy w2 v.ownBlock) (hp : ∀ k, ok k → some k ≠ v.ownBlock) (hd : Kd.S d e w base ok u xs → Kd.S d e w1 base ok u xs := by intro h_; with_reducible (repeat (first | exact h_ | apply Kd.S_alloc | apply Kd.S_drewN | apply Kd.S_drew))) : Aside0 (Kd.S d e w2 base (fun k => ok k ∧ True) u xs) :=
 ⟨Kd.S_mono (Kd.S_grown (hd h.out) hg hp) (fun _ h_ => ⟨h_, trivial⟩)⟩
theorem grR (h : Aside0 (Kd.R d e w base ok u xs)) (h2 : Aside0 (Kd.R d2 e2 w b2 ok2 v ys)) (hg : w1.grownBy w2 v.ownBlock) (ht : ∀ q, q ∈ e :: d.E → q ≠ e2 := by decide) (hd : Kd.R d e w base ok u xs → Kd.R d e w1 base ok u xs := by intro h_; with_reducible (repeat (first | exact h_ | apply Kd.R_alloc | apply Kd.R_drewN | apply Kd.R_drew))) (hd2 : Kd.R d2 e2 w b2 ok2 v ys → Kd.R d2 e2 w1 b2 ok2 v ys := by intro h_; with_reducible (repeat (first | exact h_ | apply Kd.R_alloc | apply Kd.R_drewN | apply Kd.R_drew))) : Aside0 (Kd.R d e w2 base ok u xs) :=
 ⟨Kd.R_over' (hd h.out) (Kd.R_typed (hd2 h2.out)) ht hg⟩
theorem gbB (h : Aside0 (w.heap[g]? = some (.cells cs t (0, 0)))) (h2 : Aside0 (Kd.R d2 e2 w b2 ok2 v ys)) (hg : w1.grownBy w2 v.ownBlock) (ht : e2 ≠ t := by decide) (hd : w.heap[g]? = some (.cells cs t (0, 0)) → w1.heap[g]? = some (.cells cs t (0, 0)) := by intro h_; (repeat (first | exact h_ | refine blk_drewN ?_ _ | refine blk_drew ?_ | refine blk_alloc ?_ _))) (hd2 : Kd.R d2 e2 w b2 ok2 v ys → Kd.R d2 e2 w1 b2 ok2 v ys := by intro h_; with_reducible (repeat (first | exact h_ | apply Kd.R_alloc | apply Kd.R_drewN | apply Kd.R_drew))) : Aside0 (w2.heap[g]? = some (.cells cs t (0, 0))) :=
 ⟨(hg.block g (blk_lt (hd h.out)) (Kd.R_ne (hd2 h2.out) (hd h.out) ht)).trans (hd h.out)⟩
theorem gB_ (h2 : Aside0 (Kd.R d2 e2 w w0.heap.size ok2 v ys)) (hg : w1.grownBy w2 v.ownBlock) (hB : Below w0.heap.size w0 w1) : Aside0 (Below w0.heap.size w0 w2) := ⟨Below.grown hB hg hB.size (Kd.R_base h2.out)⟩
end
/-! ### impl_placeOf: function 41 -/
def placeR (ino : Int) : List S51 → Nat → Int
 | [], _ => -1
 | x :: l, i => if x.f0 = ino then (i : Int) else placeR ino l (i + 1)
theorem placeOf1.calls (ino a b c : Int) (A3 A4 A5 : Option Addr) (n3 c3 n4 c4 n5 c5 : Nat) (B : Nat) (W : World) (hB : B < W.heap.size) (hc : W.cell? ⟨B, 0, none⟩ = some (.int .i64 ino)) :
  Calls Tryz.prog 70 #[.agg #[.int .i64 a, .int .i64 b, .int .i64 c, .slice A3 n3 c3, .slice A4 n4 c4, .slice A5 n5 c5], .pointer (some ⟨B, 0, none⟩)] W fun e w' => e = .returned (.bool (a == ino)) ∧ Below W.heap.size W w' := by
 have hne : B ≠ W.heap.size := by omega
 go_enter Tryz.func70, Tryz.ntmps70
 go_wp2
 all_goals (go_ret; exact ⟨by simp_all, (Below.refl _ W).alloc (Nat.le_refl _) _⟩)
theorem placeR_none (ino : Int) (l : List S51) (i : Nat) (h : ∀ x ∈ l, x.f0 ≠ ino) : placeR ino l i = -1 := by
 induction l generalizing i with
 | nil => rfl
 | cons x l ih => rw [placeR, if_neg (h x (List.mem_cons_self ..))]; exact ih (i + 1) (fun y hy => h y (List.mem_cons_of_mem _ hy))
theorem rd51_at (l : List S51) (k : Nat) (h : k < l.length) : rd_T51 l (k : Int) = l[k] := by
 simp [rd_T51, List.getD_eq_getElem?_getD, List.getElem?_eq_getElem h]
theorem placeR_hit (ino : Int) (l : List S51) (k j : Nat) (h : k < l.length) (hit : (rd_T51 l (k : Int)).f0 = ino) : placeR ino (l.drop k) j = (j : Int) := by
 rw [List.drop_eq_getElem_cons h, placeR, if_pos (by rw [← rd51_at l k h]; exact hit)]
theorem placeR_miss (ino : Int) (l : List S51) (k j : Nat) (h : k < l.length) (hit : (rd_T51 l (k : Int)).f0 ≠ ino) : placeR ino (l.drop k) j = placeR ino (l.drop (k + 1)) (j + 1) := by
 rw [List.drop_eq_getElem_cons h, placeR, if_neg (by rw [← rd51_at l k h]; exact hit)]
set_option maxHeartbeats 400000 in
set_option maxRecDepth 100000 in
theorem placeOf2.calls (ino : Int) (A0 : Option Addr) (c0 : Nat) (l : List S51) (B : Nat) (w : World) (hr : k51.C w A0 l.length l) (hB : B < w.heap.size) (hc : w.cell? ⟨B, 0, none⟩ = some (.int .i64 ino)) (hl : l.length ≤ 9223372036854775807) :
  Calls Tryz.prog 69 #[.slice A0 l.length c0, .func (.func 70) #[] #[.pointer (some ⟨B, 0, none⟩)]] w fun e w' => e = .returned (.int .i64 (placeR ino l 0)) ∧ Below w.heap.size w w' := by
 go_enter Tryz.func69, Tryz.ntmps69
 go_wp2
 go_loopg [5, 8] l.length (fun gg _ s8 wr => ∃ kk : Nat, kk ≤ l.length ∧ l.length - kk ≤ gg ∧ s8 = .int .i64 kk ∧ Aside0 (Below w.heap.size w wr) ∧ Aside0 (placeR ino l 0 = placeR ino (l.drop kk) kk))
 case atStart => exact ⟨0, Nat.zero_le _, by omega, rfl, ⟨Below.refl _ w⟩, ⟨rfl⟩⟩
 case round =>
  obtain ⟨kk, hkk, hg, rfl, BW, A⟩ := hrel
  by_cases hlt : kk < l.length
  ·have hltz : (kk : Int) < (l.length : Int) := by omega
   obtain ⟨ad, A3, c3, A4, c4, A5, c5, e0, h0, h1, h2, h3, h4, h5, _⟩ := at_T51 (Kd.C_below hr BW.out) (kk : Int) (by omega) hltz
   cases e0
   rw [Int.toNat_natCast] at h0 h1 h2 h3 h4 h5
   have hBw : B < wr.heap.size := Nat.lt_of_lt_of_le hB BW.out.size
   have hcw : wr.cell? ⟨B, 0, none⟩ = some (.int .i64 ino) := (BW.out.cell (p := ⟨B, 0, none⟩) hB).trans hc
   by_cases hit : (rd_T51 l (kk : Int)).f0 = ino
   ·have hq : ((rd_T51 l (kk : Int)).f0 == ino) = true := by simpa using hit
    go_wp2_with (go_at_call 70; refine (placeOf1.calls ino _ _ _ _ _ _ _ _ _ _ _ _ B wr hBw hcw).mono ?_; rintro e w' ⟨rfl, hb'⟩)
    go_ret
    exact ⟨by rw [A.out, placeR_hit ino l kk kk hlt hit]; rfl, below_then BW.out BW.out.size hb'⟩
   ·have hq : ((rd_T51 l (kk : Int)).f0 == ino) = false := by simpa using hit
    go_wp2_with (go_at_call 70; refine (placeOf1.calls ino _ _ _ _ _ _ _ _ _ _ _ _ B wr hBw hcw).mono ?_; rintro e w' ⟨rfl, hb'⟩)
    go_roundg (l.length - (kk + 1))
    case measure => omega
    case rel => exact ⟨kk + 1, by omega, by omega, by go_num, ⟨below_then BW.out BW.out.size hb'⟩, ⟨by rw [A.out, placeR_miss ino l kk kk hlt hit]⟩⟩
  ·have hltz : ¬ (kk : Int) < (l.length : Int) := by omega
   obtain rfl : kk = l.length := by omega
   go_wp2
   go_ret
   exact ⟨by rw [A.out, List.drop_length]; rfl, BW.out⟩
def impl_placeOf.f (k : Nat) (l0_0 : List S51) (a0_1 a1 : Int) : Option Int := if (l0_0.length : Int) ≤ 9223372036854775807 then some (placeR a1 l0_0 0) else none
set_option maxHeartbeats 400000 in
theorem impl_placeOf.calls (k : Nat) (A0_0 : Option Addr) (c0_0 : Nat) (l0_0 : List S51) (a0_1 a1 : Int) (r : Int) (w : World) (hr0_0 : Kd.C k51 w A0_0 l0_0.length l0_0) (hc0_0 : l0_0.length ≤ c0_0) (h : impl_placeOf.f k l0_0 a0_1 a1 = some r) :
  Calls Tryz.prog 41 #[.agg #[.slice A0_0 l0_0.length c0_0, .int .i64 a0_1], .int .i64 a1] w fun e w' => e = .returned (.int .i64 r) ∧ Below w.heap.size w w' := by
 unfold impl_placeOf.f at h
 split at h
 case isFalse => cases h
 case isTrue hl =>
 obtain rfl := Option.some.inj h
 clear h
 have hw1 : Below w.heap.size w (w.alloc (.cells #[.slice A0_0 l0_0.length c0_0, .int .i64 a0_1] 26)) := (Below.refl _ w).alloc (Nat.le_refl _) _
 have hw2 : Below w.heap.size w ((w.alloc (.cells #[.slice A0_0 l0_0.length c0_0, .int .i64 a0_1] 26)).alloc (.cells #[.int .i64 a1] 3)) := hw1.alloc (by simp) _
 have hcon := placeOf2.calls a1 A0_0 c0_0 l0_0 (w.heap.size + 1) ((w.alloc (.cells #[.slice A0_0 l0_0.length c0_0, .int .i64 a0_1] 26)).alloc (.cells #[.int .i64 a1] 3)) (Kd.C_below hr0_0 hw2) (by simp) (by simp) (by omega)
 clear hr0_0 hw1
 go_enter Tryz.func41, Tryz.ntmps41
 go_wp2_with (go_at_call 69; refine hcon.mono ?_; rintro e w' ⟨rfl, hb'⟩)
 go_ret
 exact ⟨rfl, below_then hw2 (by simp only [World.size_alloc]; omega) hb'⟩
/-! ### slices_IndexFunc_Attr: function 53 -/
def geS (s a : ByteArray) : Bool := !(Op.bytesLess a.toList s.toList)
def geN (s : ByteArray) : List S71 → Nat → Int
 | [], _ => -1
 | x :: l, i => if geS s x.f0 = true then (i : Int) else geN s l (i + 1)
theorem attGe1.calls (s a b : ByteArray) (B : Nat) (W : World) (hB : B < W.heap.size) (hc : W.cell? ⟨B, 0, none⟩ = some (.string s)) :
  Calls Tryz.prog 54 #[.agg #[.string a, .string b], .pointer (some ⟨B, 0, none⟩)] W fun e w' => e = .returned (.bool (geS s a)) ∧ Below W.heap.size W w' := by
 have hne : B ≠ W.heap.size := by omega
 go_enter Tryz.func54, Tryz.ntmps54
 go_wp2
 all_goals (go_ret; exact ⟨by simp_all [geS], (Below.refl _ W).alloc (Nat.le_refl _) _⟩)
theorem ard_at (l : List S71) (k : Nat) (h : k < l.length) : rd_T71 l (k : Int) = l[k] := by
 simp [rd_T71, List.getD_eq_getElem?_getD, List.getElem?_eq_getElem h]
theorem geN_hit (s : ByteArray) (l : List S71) (k j : Nat) (h : k < l.length) (hit : geS s (rd_T71 l (k : Int)).f0 = true) : geN s (l.drop k) j = (j : Int) := by
 rw [List.drop_eq_getElem_cons h, geN, if_pos (by rw [← ard_at l k h]; exact hit)]
theorem geN_miss (s : ByteArray) (l : List S71) (k j : Nat) (h : k < l.length) (hit : geS s (rd_T71 l (k : Int)).f0 = false) : geN s (l.drop k) j = geN s (l.drop (k + 1)) (j + 1) := by
 rw [List.drop_eq_getElem_cons h, geN, if_neg (by rw [← ard_at l k h, hit]; decide)]
set_option maxHeartbeats 400000 in
set_option maxRecDepth 100000 in
theorem attGe2.calls (s : ByteArray) (A0 : Option Addr) (c0 : Nat) (l : List S71) (B : Nat) (w : World) (hr : k71.C w A0 l.length l) (hB : B < w.heap.size) (hc : w.cell? ⟨B, 0, none⟩ = some (.string s)) (hl : l.length ≤ 9223372036854775807) :
  Calls Tryz.prog 53 #[.slice A0 l.length c0, .func (.func 54) #[] #[.pointer (some ⟨B, 0, none⟩)]] w fun e w' => e = .returned (.int .i64 (geN s l 0)) ∧ Below w.heap.size w w' := by
 go_enter Tryz.func53, Tryz.ntmps53
 go_wp2
 go_loopg [5, 8] l.length (fun gg _ s8 wr => ∃ kk : Nat, kk ≤ l.length ∧ l.length - kk ≤ gg ∧ s8 = .int .i64 kk ∧ Aside0 (Below w.heap.size w wr) ∧ Aside0 (geN s l 0 = geN s (l.drop kk) kk))
 case atStart => exact ⟨0, Nat.zero_le _, by omega, rfl, ⟨Below.refl _ w⟩, ⟨rfl⟩⟩
 case round =>
  obtain ⟨kk, hkk, hg, rfl, BW, A⟩ := hrel
  by_cases hlt : kk < l.length
  ·have hltz : (kk : Int) < (l.length : Int) := by omega
   obtain ⟨ad, e0, h0, h1⟩ := at_T71 (Kd.C_below hr BW.out) (kk : Int) (by omega) hltz
   cases e0
   rw [Int.toNat_natCast] at h0 h1
   have hBw : B < wr.heap.size := Nat.lt_of_lt_of_le hB BW.out.size
   have hcw : wr.cell? ⟨B, 0, none⟩ = some (.string s) := (BW.out.cell (p := ⟨B, 0, none⟩) hB).trans hc
   cases hq : geS s (rd_T71 l (kk : Int)).f0 with
   | true =>
    go_wp2_with (go_at_call 54; refine (attGe1.calls s _ _ B wr hBw hcw).mono ?_; rintro e w' ⟨rfl, hb'⟩; rw [hq])
    go_ret
    exact ⟨by rw [A.out, geN_hit s l kk kk hlt hq]; rfl, below_then BW.out BW.out.size hb'⟩
   | false =>
    go_wp2_with (go_at_call 54; refine (attGe1.calls s _ _ B wr hBw hcw).mono ?_; rintro e w' ⟨rfl, hb'⟩; rw [hq])
    go_roundg (l.length - (kk + 1))
    case measure => omega
    case rel => exact ⟨kk + 1, by omega, by omega, by go_num, ⟨below_then BW.out BW.out.size hb'⟩, ⟨by rw [A.out, geN_miss s l kk kk hlt hq]⟩⟩
  ·have hltz : ¬ (kk : Int) < (l.length : Int) := by omega
   obtain rfl : kk = l.length := by omega
   go_wp2
   go_ret
   exact ⟨by rw [A.out, List.drop_length]; rfl, BW.out⟩
def slices_IndexFunc_Attr.f (l0 : List S71) (a1 : ByteArray) : Option Int := if l0.length ≤ 9223372036854775807 then some (geN a1 l0 0) else none
theorem slices_IndexFunc_Attr.calls (B : Nat) (A0 : Option Addr) (c0 : Nat) (l0 : List S71) (a1 : ByteArray) (r : Int) (w : World) (hr0 : k71.C w A0 l0.length l0) (_ : l0.length ≤ c0) (h : slices_IndexFunc_Attr.f l0 a1 = some r) (hb : w.heap[B]? = some (.cells #[.string a1] 9 (0, 0))) :
  Calls Tryz.prog 53 #[.slice A0 l0.length c0, .func (.func 54) #[] #[.pointer (some ⟨B, 0, none⟩)]] w fun e w' => e = .returned (.int .i64 r) ∧ Below w.heap.size w w' := by
 unfold slices_IndexFunc_Attr.f at h
 split at h
 case isFalse => cases h
 case isTrue hl =>
 obtain rfl := Option.some.inj h
 exact attGe2.calls a1 A0 c0 l0 B w hr0 (blk_lt hb) ((blk_cell hb 0).trans rfl) hl
/-! ### slices_Clone_byte_byte: function 51 -/
def slices_Clone_byte_byte.f (l0 : List Int) : Option (List Int) := (some (([] : List Int) : List Int)).bind fun y111 => (if y111.length + l0.length < 140737488355328 then (some (y111 ++ l0)) else (none))
set_option maxHeartbeats 8000000 in
set_option maxRecDepth 100000 in
theorem slices_Clone_byte_byte.calls_some (a0_ : Addr) (c0 : Nat) (l0 : List Int) (r : List Int) (w : World) (hr0 : Kd.C (Kd.int .u8) w (some a0_) l0.length l0) (hc0 : l0.length ≤ c0) (h : slices_Clone_byte_byte.f l0 = some r) :
  Calls Tryz.prog 51 #[.slice (some a0_) l0.length c0] w fun e w' => ∃ v0_ : Value, e = .returned (v0_) ∧ Kd.R (Kd.int .u8) 5 w' w.heap.size (fun _ => True) v0_ r ∧ Below w.heap.size w w' := by
 have HR0 := Aside0.mk hr0
 have HC0 := Aside0.mk hc0
 clear hr0 hc0
 have HB := Aside0.mk (Below.refl w.heap.size w)
 unfold slices_Clone_byte_byte.f at h
 have H := h
 clear h
 obtain ⟨y111, hy111⟩ : ∃ y_ : List Int, y_ = (([] : List Int)) := ⟨_, rfl⟩
 replace H : (if y111.length + l0.length < 140737488355328 then (some (y111 ++ l0)) else (none)) = some r := by first | (rw [hy111]; with_reducible exact H) | (have H2_ := (Option.bind_some _ _).symm.trans H; rw [hy111]; with_reducible exact H2_) | (have H2_ := (Option.bind_some _ _).symm.trans H; with_reducible exact H2_) | with_reducible exact H | (rw [hy111]; exact H) | exact H
 have Ny111 := Aside0.mk hy111
 clear hy111
 by_cases c2 : y111.length + l0.length < 140737488355328
 ·rw [if_pos c2] at H
  have LMc2 := Aside0.mk c2
  clear c2
  obtain ⟨y114, hy114⟩ : ∃ y_ : List Int, y_ = (y111 ++ l0) := ⟨_, rfl⟩
  replace H : (some y114) = some r := by first | (rw [hy114]; with_reducible exact H) | (have H2_ := (Option.bind_some _ _).symm.trans H; rw [hy114]; with_reducible exact H2_) | (have H2_ := (Option.bind_some _ _).symm.trans H; with_reducible exact H2_) | with_reducible exact H | (rw [hy114]; exact H) | exact H
  have Ny114 := Aside0.mk hy114
  clear hy114
  obtain rfl := Option.some.inj H
  have hq_ := Lib.run_eql_slice_nil (P := Tryz.prog) w 22 5 (some a0_) l0.length c0 0 0 (by kernel_rfl)
  go_enter Tryz.func51, Tryz.ntmps51
  go_wp2_with (first | ((with_reducible refine gate_dst (N := 5) rfl ?_); refine Kd.R_lit (Kd.int .u8) _ 5 ?hg (N := 5) ?hd (xs := ([] : List Int)) (inner := []) (ok := fun _ => True) (okp := fun _ => True) ?hr ?hp (fun _ hk => hk) trivial (Below.refl _ _) (Nat.le_refl _) (by simp) ?_; (case hd => rfl); (case hg => rfl); (case hr => first | (go_simp; done) | (go_simp; rfl)); (case hp => exact (Reps.none _ _)); intro v112 w3 ho4 hb hg_ hnew_; clear hg_ hnew_; (first | rw [← Ny111.out] at ho4 | (simp only [Int.reduceToNat] at ho4; rw [← Ny111.out] at ho4)); have HO113 := Aside0.mk (Kd.R_lower ho4 (below_size oB)); replace HB := Aside0.mk (below_step oB hb); clear hb ho4) | ((with_reducible refine gate_builtin (b := .append) (xs := #[.tmp 5, .tmp 6]) rfl ?_); at_builtin; refine Kd.R_append_rows (Kd.int .u8) (w0 := w) w.heap.size rfl (.tmp 5) (.tmp 6) 22 5 (.int .u8 0) 1 rfl Tryz.underlying22 info5 rfl (by decide) (by omega) v112 y111 l0 _ _ _ (fun _ => True) (fun _ => False) rfl rfl ?aO ?aR (fun _ _ h => h) (fun _ h => h.elim) ?aF ?aB ?aS ?aL ?_; (case aR => repeat (first | exact (Kd.C_below HR0.out HB.out) | (with_reducible refine Kd.C_alloc ?_ _) | (with_reducible refine Kd.C_drewN ?_ _) | (with_reducible refine Kd.C_drew ?_))); (case aB => exact oB); (case aF => exact (fun _ _ => trivial)); (case aO => exact (oR HO113)); (case aS => exact (below_size oB)); (case aL => have := LMc2.out; omega); intro v115 w5 ho hb hg hat; rw [← Ny114.out] at ho; have HO116 := Aside0.mk (ho); replace HB := Aside0.mk (hb); clear HO113; clear ho hb hg hat))
  go_ret
  exact ⟨_, oE, oR HO116, oB⟩
 ·rw [if_neg c2] at H
  exact absurd H (by simp)

set_option maxHeartbeats 8000000 in
set_option maxRecDepth 100000 in
theorem slices_Clone_byte_byte.calls (A0 : Option Addr) (c0 : Nat) (l0 : List Int) (r : List Int) (w : World) (hr0 : Kd.C (Kd.int .u8) w A0 l0.length l0) (hc0 : l0.length ≤ c0) (h : slices_Clone_byte_byte.f l0 = some r) :
  Calls Tryz.prog 51 #[.slice A0 l0.length c0] w fun e w' => ∃ v0_ : Value, e = .returned (v0_) ∧ Kd.R (Kd.int .u8) 5 w' w.heap.size (fun _ => True) v0_ r ∧ Below w.heap.size w w' := by
 rcases A0 with _ | a0_
 ·have hl_ : l0 = [] := by
   rcases Nat.eq_zero_or_pos l0.length with hz_ | hz_
   ·exact List.eq_nil_of_length_eq_zero hz_
   ·obtain ⟨ad_, he_, _⟩ := hr0.2.2 hz_
    cases he_
  subst hl_
  obtain rfl : r = [] := by
   simp [slices_Clone_byte_byte.f] at h
   exact h
  have hq_ := Lib.run_eql_slice_nil (P := Tryz.prog) w 22 5 none 0 c0 0 0 (by kernel_rfl)
  go_enter Tryz.func51, Tryz.ntmps51
  go_wp2
  go_ret
  exact ⟨_, rfl, Kd.R_nil _ _ _ _ _, Below.refl _ _⟩
 ·exact slices_Clone_byte_byte.calls_some a0_ c0 l0 r w hr0 hc0 h

/-! ### slices_Clone_Ent: function 82 -/
def slices_Clone_Ent.f (l0 : List (S65)) : Option ((List (S65))) := (some (([] : List (S65)) : List (S65))).bind fun y117 => (if y117.length + l0.length < 5864062014805 then (some (y117 ++ l0)) else (none))
set_option maxHeartbeats 8000000 in
set_option maxRecDepth 100000 in
theorem slices_Clone_Ent.calls_some (a0_ : Addr) (c0 : Nat) (l0 : List (S65)) (r : List (S65)) (w : World) (hr0 : Kd.C k65 w (some a0_) l0.length l0) (hc0 : l0.length ≤ c0) (h : slices_Clone_Ent.f l0 = some r) :
  Calls Tryz.prog 82 #[.slice (some a0_) l0.length c0] w fun e w' => ∃ v0_ : Value, e = .returned (v0_) ∧ Kd.R k65 65 w' w.heap.size (fun _ => True) v0_ r ∧ Below w.heap.size w w' := by
 have HR0 := Aside0.mk hr0
 have HC0 := Aside0.mk hc0
 clear hr0 hc0
 have HB := Aside0.mk (Below.refl w.heap.size w)
 unfold slices_Clone_Ent.f at h
 have H := h
 clear h
 obtain ⟨y117, hy117⟩ : ∃ y_ : List (S65), y_ = (([] : List (S65))) := ⟨_, rfl⟩
 replace H : (if y117.length + l0.length < 5864062014805 then (some (y117 ++ l0)) else (none)) = some r := by first | (rw [hy117]; with_reducible exact H) | (have H2_ := (Option.bind_some _ _).symm.trans H; rw [hy117]; with_reducible exact H2_) | (have H2_ := (Option.bind_some _ _).symm.trans H; with_reducible exact H2_) | with_reducible exact H | (rw [hy117]; exact H) | exact H
 have Ny117 := Aside0.mk hy117
 clear hy117
 by_cases c2 : y117.length + l0.length < 5864062014805
 ·rw [if_pos c2] at H
  have LMc2 := Aside0.mk c2
  clear c2
  obtain ⟨y120, hy120⟩ : ∃ y_ : List (S65), y_ = (y117 ++ l0) := ⟨_, rfl⟩
  replace H : (some y120) = some r := by first | (rw [hy120]; with_reducible exact H) | (have H2_ := (Option.bind_some _ _).symm.trans H; rw [hy120]; with_reducible exact H2_) | (have H2_ := (Option.bind_some _ _).symm.trans H; with_reducible exact H2_) | with_reducible exact H | (rw [hy120]; exact H) | exact H
  have Ny120 := Aside0.mk hy120
  clear hy120
  obtain rfl := Option.some.inj H
  have hq_ := Lib.run_eql_slice_nil (P := Tryz.prog) w 48 65 (some a0_) l0.length c0 0 0 (by kernel_rfl)
  go_enter Tryz.func82, Tryz.ntmps82
  go_wp2_with (first | ((with_reducible refine gate_dst (N := 5) rfl ?_); refine Kd.R_lit k65 _ 65 ?hg (N := 5) ?hd (xs := ([] : List (S65))) (inner := []) (ok := fun _ => True) (okp := fun _ => True) ?hr ?hp (fun _ hk => hk) trivial (Below.refl _ _) (Nat.le_refl _) (by simp) ?_; (case hd => rfl); (case hg => rfl); (case hr => first | (go_simp; done) | (go_simp; rfl)); (case hp => exact (Reps.none _ _)); intro v118 w3 ho4 hb hg_ hnew_; clear hg_ hnew_; (first | rw [← Ny117.out] at ho4 | (simp only [Int.reduceToNat] at ho4; rw [← Ny117.out] at ho4)); have HO119 := Aside0.mk (Kd.R_lower ho4 (below_size oB)); replace HB := Aside0.mk (below_step oB hb); clear hb ho4) | ((with_reducible refine gate_builtin (b := .append) (xs := #[.tmp 5, .tmp 6]) rfl ?_); at_builtin; refine Kd.R_append_rows k65 (w0 := w) w.heap.size rfl (.tmp 5) (.tmp 6) 48 65 (.agg #[(.string ⟨#[]⟩), (.int .i64 0)]) 24 rfl Tryz.underlying48 info65 rfl (by decide) (by omega) v118 y117 l0 _ _ _ (fun _ => True) (fun _ => False) rfl rfl ?aO ?aR (fun _ _ h => h) (fun _ h => h.elim) ?aF ?aB ?aS ?aL ?_; (case aR => repeat (first | exact (Kd.C_below HR0.out HB.out) | (with_reducible refine Kd.C_alloc ?_ _) | (with_reducible refine Kd.C_drewN ?_ _) | (with_reducible refine Kd.C_drew ?_))); (case aB => exact oB); (case aF => exact (fun _ _ => trivial)); (case aO => exact (oR HO119)); (case aS => exact (below_size oB)); (case aL => have := LMc2.out; omega); intro v121 w5 ho hb hg hat; rw [← Ny120.out] at ho; have HO122 := Aside0.mk (ho); replace HB := Aside0.mk (hb); clear HO119; clear ho hb hg hat))
  go_ret
  exact ⟨_, oE, oR HO122, oB⟩
 ·rw [if_neg c2] at H
  exact absurd H (by simp)

set_option maxHeartbeats 8000000 in
set_option maxRecDepth 100000 in
theorem slices_Clone_Ent.calls (A0 : Option Addr) (c0 : Nat) (l0 : List (S65)) (r : List (S65)) (w : World) (hr0 : Kd.C k65 w A0 l0.length l0) (hc0 : l0.length ≤ c0) (h : slices_Clone_Ent.f l0 = some r) :
  Calls Tryz.prog 82 #[.slice A0 l0.length c0] w fun e w' => ∃ v0_ : Value, e = .returned (v0_) ∧ Kd.R k65 65 w' w.heap.size (fun _ => True) v0_ r ∧ Below w.heap.size w w' := by
 rcases A0 with _ | a0_
 ·have hl_ : l0 = [] := by
   rcases Nat.eq_zero_or_pos l0.length with hz_ | hz_
   ·exact List.eq_nil_of_length_eq_zero hz_
   ·obtain ⟨ad_, he_, _⟩ := hr0.2.2 hz_
    cases he_
  subst hl_
  obtain rfl : r = [] := by
   simp [slices_Clone_Ent.f] at h
   exact h
  have hq_ := Lib.run_eql_slice_nil (P := Tryz.prog) w 48 65 none 0 c0 0 0 (by kernel_rfl)
  go_enter Tryz.func82, Tryz.ntmps82
  go_wp2
  go_ret
  exact ⟨_, rfl, Kd.R_nil _ _ _ _ _, Below.refl _ _⟩
 ·exact slices_Clone_Ent.calls_some a0_ c0 l0 r w hr0 hc0 h

/-! ### slices_Clone_Attr: function 95 -/
def slices_Clone_Attr.f (l0 : List (S71)) : Option ((List (S71))) := (some (([] : List (S71)) : List (S71))).bind fun y123 => (if y123.length + l0.length < 4398046511104 then (some (y123 ++ l0)) else (none))
set_option maxHeartbeats 8000000 in
set_option maxRecDepth 100000 in
theorem slices_Clone_Attr.calls_some (a0_ : Addr) (c0 : Nat) (l0 : List (S71)) (r : List (S71)) (w : World) (hr0 : Kd.C k71 w (some a0_) l0.length l0) (hc0 : l0.length ≤ c0) (h : slices_Clone_Attr.f l0 = some r) :
  Calls Tryz.prog 95 #[.slice (some a0_) l0.length c0] w fun e w' => ∃ v0_ : Value, e = .returned (v0_) ∧ Kd.R k71 71 w' w.heap.size (fun _ => True) v0_ r ∧ Below w.heap.size w w' := by
 have HR0 := Aside0.mk hr0
 have HC0 := Aside0.mk hc0
 clear hr0 hc0
 have HB := Aside0.mk (Below.refl w.heap.size w)
 unfold slices_Clone_Attr.f at h
 have H := h
 clear h
 obtain ⟨y123, hy123⟩ : ∃ y_ : List (S71), y_ = (([] : List (S71))) := ⟨_, rfl⟩
 replace H : (if y123.length + l0.length < 4398046511104 then (some (y123 ++ l0)) else (none)) = some r := by first | (rw [hy123]; with_reducible exact H) | (have H2_ := (Option.bind_some _ _).symm.trans H; rw [hy123]; with_reducible exact H2_) | (have H2_ := (Option.bind_some _ _).symm.trans H; with_reducible exact H2_) | with_reducible exact H | (rw [hy123]; exact H) | exact H
 have Ny123 := Aside0.mk hy123
 clear hy123
 by_cases c2 : y123.length + l0.length < 4398046511104
 ·rw [if_pos c2] at H
  have LMc2 := Aside0.mk c2
  clear c2
  obtain ⟨y126, hy126⟩ : ∃ y_ : List (S71), y_ = (y123 ++ l0) := ⟨_, rfl⟩
  replace H : (some y126) = some r := by first | (rw [hy126]; with_reducible exact H) | (have H2_ := (Option.bind_some _ _).symm.trans H; rw [hy126]; with_reducible exact H2_) | (have H2_ := (Option.bind_some _ _).symm.trans H; with_reducible exact H2_) | with_reducible exact H | (rw [hy126]; exact H) | exact H
  have Ny126 := Aside0.mk hy126
  clear hy126
  obtain rfl := Option.some.inj H
  have hq_ := Lib.run_eql_slice_nil (P := Tryz.prog) w 49 71 (some a0_) l0.length c0 0 0 (by kernel_rfl)
  go_enter Tryz.func95, Tryz.ntmps95
  go_wp2_with (first | ((with_reducible refine gate_dst (N := 5) rfl ?_); refine Kd.R_lit k71 _ 71 ?hg (N := 5) ?hd (xs := ([] : List (S71))) (inner := []) (ok := fun _ => True) (okp := fun _ => True) ?hr ?hp (fun _ hk => hk) trivial (Below.refl _ _) (Nat.le_refl _) (by simp) ?_; (case hd => rfl); (case hg => rfl); (case hr => first | (go_simp; done) | (go_simp; rfl)); (case hp => exact (Reps.none _ _)); intro v124 w3 ho4 hb hg_ hnew_; clear hg_ hnew_; (first | rw [← Ny123.out] at ho4 | (simp only [Int.reduceToNat] at ho4; rw [← Ny123.out] at ho4)); have HO125 := Aside0.mk (Kd.R_lower ho4 (below_size oB)); replace HB := Aside0.mk (below_step oB hb); clear hb ho4) | ((with_reducible refine gate_builtin (b := .append) (xs := #[.tmp 5, .tmp 6]) rfl ?_); at_builtin; refine Kd.R_append_rows k71 (w0 := w) w.heap.size rfl (.tmp 5) (.tmp 6) 49 71 (.agg #[(.string ⟨#[]⟩), (.string ⟨#[]⟩)]) 32 rfl Tryz.underlying49 info71 rfl (by decide) (by omega) v124 y123 l0 _ _ _ (fun _ => True) (fun _ => False) rfl rfl ?aO ?aR (fun _ _ h => h) (fun _ h => h.elim) ?aF ?aB ?aS ?aL ?_; (case aR => repeat (first | exact (Kd.C_below HR0.out HB.out) | (with_reducible refine Kd.C_alloc ?_ _) | (with_reducible refine Kd.C_drewN ?_ _) | (with_reducible refine Kd.C_drew ?_))); (case aB => exact oB); (case aF => exact (fun _ _ => trivial)); (case aO => exact (oR HO125)); (case aS => exact (below_size oB)); (case aL => have := LMc2.out; omega); intro v127 w5 ho hb hg hat; rw [← Ny126.out] at ho; have HO128 := Aside0.mk (ho); replace HB := Aside0.mk (hb); clear HO125; clear ho hb hg hat))
  go_ret
  exact ⟨_, oE, oR HO128, oB⟩
 ·rw [if_neg c2] at H
  exact absurd H (by simp)

set_option maxHeartbeats 8000000 in
set_option maxRecDepth 100000 in
theorem slices_Clone_Attr.calls (A0 : Option Addr) (c0 : Nat) (l0 : List (S71)) (r : List (S71)) (w : World) (hr0 : Kd.C k71 w A0 l0.length l0) (hc0 : l0.length ≤ c0) (h : slices_Clone_Attr.f l0 = some r) :
  Calls Tryz.prog 95 #[.slice A0 l0.length c0] w fun e w' => ∃ v0_ : Value, e = .returned (v0_) ∧ Kd.R k71 71 w' w.heap.size (fun _ => True) v0_ r ∧ Below w.heap.size w w' := by
 rcases A0 with _ | a0_
 ·have hl_ : l0 = [] := by
   rcases Nat.eq_zero_or_pos l0.length with hz_ | hz_
   ·exact List.eq_nil_of_length_eq_zero hz_
   ·obtain ⟨ad_, he_, _⟩ := hr0.2.2 hz_
    cases he_
  subst hl_
  obtain rfl : r = [] := by
   simp [slices_Clone_Attr.f] at h
   exact h
  have hq_ := Lib.run_eql_slice_nil (P := Tryz.prog) w 49 71 none 0 c0 0 0 (by kernel_rfl)
  go_enter Tryz.func95, Tryz.ntmps95
  go_wp2
  go_ret
  exact ⟨_, rfl, Kd.R_nil _ _ _ _ _, Below.refl _ _⟩
 ·exact slices_Clone_Attr.calls_some a0_ c0 l0 r w hr0 hc0 h

/-! ### laws_at: function 20 -/
def laws_at.f (l0 : List Int) (a1 : Int) : Option (Int) := if a1 < (l0.length : Int) then (if 0 ≤ a1 then (some (wrap64 (rd l0 a1))) else (none)) else (some (Int.tmod (wrap64 ((wrap64 (a1 * 31)) + (wrap64 ((l0.length : Int) * 7)))) 256))
set_option maxHeartbeats 8000000 in
set_option maxRecDepth 100000 in
theorem laws_at.calls (A0 : Option Addr) (c0 : Nat) (l0 : List Int) (a1 : Int) (r : Int) (w : World) (hr0 : Kd.C (Kd.int .u8) w A0 l0.length l0) (hc0 : l0.length ≤ c0) (h : laws_at.f l0 a1 = some r) :
  Calls Tryz.prog 20 #[.slice A0 l0.length c0, .int .i64 a1] w fun e w' => e = .returned (.int .i64 r) ∧ Drawn0 w w' := by
 have HR0 := Aside0.mk hr0
 have HC0 := Aside0.mk hc0
 clear hr0 hc0
 unfold laws_at.f at h
 have H := h
 clear h
 replace H := itD H
 rcases H with ⟨c3b0, H⟩ | ⟨c3b0, H⟩
 ·replace H := itD H
  rcases H with ⟨c4b0, H⟩ | ⟨c4b0, H⟩
  ·obtain rfl := Option.some.inj H
   have p106 : (0 ≤ (a1 : Int)) = True := oT
   have q106 : (a1 < (l0.length : Int)) = True := oT
   obtain ⟨ad106, e106, hx106_0⟩ := Kd.at_int HR0.out a1 oa oa
   cases e106
   go_enter Tryz.func20, Tryz.ntmps20
   go_wp2
   go_ret
   exact ⟨oS, oD⟩
  ·cases H
 ·obtain rfl := Option.some.inj H
  go_enter Tryz.func20, Tryz.ntmps20
  go_wp2
  go_ret
  exact ⟨oS, oD⟩

/-! ### slices_Contains_int_int: function 67 -/
theorem rSpotC {α : Type} {d : Kd α} {e base n c : Nat} {ok : Nat → Prop} {w : World} {A : Option Addr} {xs : List α} (h : d.R e w base ok (.slice A n c) xs) : ∀ ad, A = some ad → 0 < xs.length → ad.spot = none := by
 intro ad hA _
 subst hA
 obtain ⟨g, rfl⟩ := Kd.R_head h
 rfl
def slices_Contains_int_int.f (l : List Int) (x : Int) : Option Bool := if l.length ≤ 9223372036854775807 then some (l.contains x) else none
theorem slices_Contains_int_int.calls (A0 : Option Addr) (c0 : Nat) (l0 : List Int) (a1 : Int) (r : Bool) (w : World) (hr0 : Kd.C (Kd.int .i64) w A0 l0.length l0) (hc0 : l0.length ≤ c0) (h : slices_Contains_int_int.f l0 a1 = some r) (hA : ∀ ad, A0 = some ad → 0 < l0.length → ad.spot = none := by first | exact rSpotC (by first | (with_reducible assumption) | exact Aside0.out (by with_reducible assumption))) :
  Calls Tryz.prog 67 #[.slice A0 l0.length c0, .int .i64 a1] w fun e w' => e = .returned (.bool r) ∧ Below w.heap.size w w' := by
 unfold slices_Contains_int_int.f at h
 split at h
 case isFalse => cases h
 case isTrue hl =>
 obtain rfl := Option.some.inj h
 by_cases h0 : l0.length = 0
 ·obtain rfl := List.eq_nil_of_length_eq_zero h0
  exact (Any.slices_Contains_int_empty Tryz.lays107 A0 c0 a1 w).mono fun e w' ⟨he, hw⟩ => ⟨he, hw ▸ Below.refl _ _⟩
 ·obtain ⟨ad, e0, _⟩ := Kd.at_int hr0 0 (by omega) (by omega)
  subst e0
  have hsp := hA ad rfl (by omega)
  obtain ⟨bk, o, sp⟩ := ad
  have hsp : sp = none := hsp
  subst hsp
  refine (Any.slices_Contains_int Tryz.lays107 bk o l0.length c0 l0 a1 w (Nat.le_refl _) hl (fun j hj => ?_)).mono fun e w' ⟨he, hw⟩ => ⟨by rw [he, List.take_length], hw ▸ Below.refl _ _⟩
  obtain ⟨ad', e', hx⟩ := Kd.at_int hr0 (j : Int) (by omega) (by omega)
  injection e' with e'
  subst e'
  rw [Int.toNat_natCast, Addr.add_lit] at hx
  rw [hx]
  simp [rd]
/-! ### impl_from: function 47 -/
def impl_from.f (a0 : Int) (a1 : Int) (a2 : Int) : Option (Bool) := if a0 ≥ a1 then (some (decide (a0 ≤ a2))) else (some false)
set_option maxHeartbeats 8000000 in
set_option maxRecDepth 100000 in
theorem impl_from.calls (a0 : Int) (a1 : Int) (a2 : Int) (r : Bool) (w : World) (h : impl_from.f a0 a1 a2 = some r) :
  Calls Tryz.prog 47 #[.int .i64 a0, .int .i64 a1, .int .i64 a2] w fun e w' => e = .returned (.bool r) ∧ Drawn0 w w' := by
 unfold impl_from.f at h
 have H := h
 clear h
 replace H := itH H
 rcases H with ⟨c4b0, H⟩ | ⟨c4b0, H⟩
 ·obtain rfl := Option.some.inj H
  go_enter Tryz.func47, Tryz.ntmps47
  go_wp2
  go_ret
  exact ⟨oS, oD⟩
 ·obtain rfl := Option.some.inj H
  go_enter Tryz.func47, Tryz.ntmps47
  go_wp2
  go_ret
  exact ⟨oS, oD⟩

/-! ### slices_Sort_int_int: function 68 -/
def sortI (l : List Int) : List Int := l.mergeSort fun x y => decide (x ≤ y)
theorem sortI_length (l : List Int) : (sortI l).length = l.length := List.length_mergeSort ..
/-- slices.Sort of a row of the call's own: it is in order behind it. -/
theorem sortOwn.calls (A : Option Addr) (c b0 : Nat) (ok : Nat → Prop) (l : List Int) (w : World) (ho : Kd.R (Kd.int .i64) 3 w b0 ok (.slice A l.length c) l) (hl : l.length < 4611686018427387904) :
  Calls Tryz.prog 68 #[.slice A l.length c] w fun e w' => e = .returned (.tuple #[]) ∧ Kd.R (Kd.int .i64) 3 w' b0 ok (.slice A l.length c) (sortI l) ∧ w.grownBy w' (Value.slice A l.length c).ownBlock := by
 have ho' := ho
 obtain ⟨hok, inner, ⟨hil, hown⟩, hrep⟩ := ho
 rcases hown with ⟨he, h0⟩ | ⟨g, cap, cur, he, hbg, hh, hnc, hcm, hcs, hin⟩
 ·obtain rfl := List.eq_nil_of_length_eq_zero h0
  refine (Any.slices_Sort_int_none Tryz.lays189 A c w).mono fun e w' ⟨he, hw⟩ => ⟨he, ?_, ?_⟩
  ·subst hw; rw [show sortI [] = [] from List.eq_nil_of_length_eq_zero (by rw [sortI_length]; rfl)]; exact ho'
  ·subst hw; exact ⟨rfl, rfl, rfl, Nat.le_refl _, fun _ _ _ => rfl⟩
 ·injection he with ha _ hc
  subst ha; subst hc
  rw [show (Kd.int .i64).sz = 1 from rfl] at hil hcs hin hrep
  have hen := Kd.reps_encs (enc := Value.int .i64) hrep
  rw [hen, Nat.mul_one] at hin
  have hgw : g < w.heap.size := blk_lt hh
  refine (Any.slices_Sort_int Tryz.lays189 g 0 c l w (holds_of_blockI hh hin) hgw hl).mono fun e w' ⟨he, n, os, hw⟩ => ?_
  subst hw
  refine ⟨he, ⟨fun k hk => hok k hk, (sortI l).map (Value.int .i64), ?_, ?_⟩, grownBy_sortedI _⟩
  ·rw [sortI_length]
   exact ownsRow_sortedI (ss := l) (sortI_length l) hbg hh hnc hcm hcs
  ·exact Kd.reps_scalar (enc := Value.int .i64) (sortI l)
/-! ### strings_Split: function 36 -/
def GOk (w : World) : Prop := ∃ m, w.cell? ⟨Tryz.laysM146_ren.g 1, 0, none⟩ = some (.int .i64 m)
theorem gk_ {w W : World} (h : Below w.heap.size w W) (hg : Aside0 (GOk w)) : GOk W := by
 obtain ⟨m, hm⟩ := hg.out
 exact ⟨m, pw_cell_below h hm⟩
def strings_Split.f (a0 a1 : ByteArray) : Option (List ByteArray) := if a0.size < 4294967281 ∧ 1 ≤ a1.size then some (Lib.splitB a1 0 (Lib.countB a0 a1) a0) else none
theorem strings_Split.calls (a0 a1 : ByteArray) (r : List ByteArray) (w : World) (h : strings_Split.f a0 a1 = some r) (hG : GOk w := by exact gk_ oB (by first | (with_reducible assumption) | assumption)) :
  Calls Tryz.prog 36 #[.string a0, .string a1] w fun e w' => ∃ v0_ : Value, e = .returned (v0_) ∧ Kd.R Kd.string 9 w' w.heap.size (fun _ => True) v0_ r ∧ Below w.heap.size w w' := by
 unfold strings_Split.f at h
 split at h
 case isFalse => cases h
 case isTrue hc =>
 obtain rfl := Option.some.inj h
 obtain ⟨m, hm⟩ := hG
 have hl := Lib.splitB_all a1 hc.2 0 _ a0 rfl
 have hle := Lib.countB_le a1 hc.2 a0.size a0 (Nat.le_refl _)
 refine (Any.strings_Split { Tryz.laysM146 with } (by kernel_rfl) a0 a1 m w hc.1 hm hc.2).mono fun e w' ⟨he, hw⟩ => ?_
 subst hw
 refine ⟨_, he, ?_, (Below.refl _ _).alloc (Nat.le_refl _) _⟩
 refine Kd.R_of_own (enc := Value.string) (h1 := fun _ => rfl) ?_ (fun _ _ => trivial)
 have ho := World.ownsRow_lit (base := w.heap.size) (e := 9) (size := 1) w ((Lib.splitB a1 0 (Lib.countB a0 a1) a0).map Value.string).toArray (Lib.countB a0 a1 + 1) (Nat.le_refl _) (by simp only [maxLen]; omega) (by simp [hl])
 rw [← hl] at ho
 rw [show (Tryz.laysM146_ren.t 9) = 9 from rfl, ← hl]
 simpa [encs] using ho
/-! ### impl_TabNew: function 12 -/
def impl_TabNew.f  : Option ((List (S51)) × Int) := some ((([(⟨1, 2, 0, ([] : List Int), ([] : List (S65)), ([] : List (S71))⟩ : S51)] : List (S51))), 2)
set_option maxHeartbeats 8000000 in
set_option maxRecDepth 100000 in
theorem impl_TabNew.calls  (r1 : List (S51)) (r2 : Int) (w : World) (h : impl_TabNew.f  = some (r1, r2)) :
  Calls Tryz.prog 12 #[] w fun e w' => ∃ v0_ : Value, e = .returned (.agg #[v0_, .int .i64 r2]) ∧ Kd.S k51 51 w' w.heap.size (fun _ => True) v0_ r1 ∧ Below w.heap.size w w' := by
 have hu26 := Tryz.underlying26
 have hu51 := Tryz.underlying51
 have HB := Aside0.mk (Below.refl w.heap.size w)
 unfold impl_TabNew.f at h
 have H := h
 clear h
 obtain ⟨y108, hy108⟩ : ∃ y_ : List (S51), y_ = (([(⟨1, 2, 0, ([] : List Int), ([] : List (S65)), ([] : List (S71))⟩ : S51)] : List (S51))) := ⟨_, rfl⟩
 replace H : (some (y108, 2)) = some (r1, r2) := by first | (rw [hy108]; with_reducible exact H) | (have H2_ := (Option.bind_some _ _).symm.trans H; rw [hy108]; with_reducible exact H2_) | (have H2_ := (Option.bind_some _ _).symm.trans H; with_reducible exact H2_) | with_reducible exact H | (rw [hy108]; exact H) | exact H
 have Ny108 := Aside0.mk hy108
 clear hy108
 simp only [Option.some.injEq, Prod.mk.injEq] at H
 obtain ⟨rfl, rfl⟩ := H
 go_enter Tryz.func12, Tryz.ntmps12
 go_wp2_with (first | ((with_reducible refine gate_dst (N := 0) rfl ?_); refine bx_ 0 #[.slice none 0 0, .int .i64 0] 26 ?_; intro gb107 hg w1 hbox hb; have BK107 := Aside0.mk (hbox); have GW107 := gs_ hg; replace HB := Aside0.mk (below_step oB hb); clear hb hbox hg) | ((with_reducible refine gate_dst (N := 2) rfl ?_); refine Kd.S_lit k51 _ 51 ?hg (N := 2) ?hd (xs := ([(⟨1, 2, 0, ([] : List Int), ([] : List (S65)), ([] : List (S71))⟩ : S51)] : List (S51))) (inner := [.int .i64 1, .int .i64 2, .int .i64 0, .slice none 0 0, .slice none 0 0, .slice none 0 0]) (ok := fun _ => True) (okp := fun _ => True) ?hr ?hp (fun _ hk => hk) trivial (Below.refl _ _) (Nat.le_refl _) (by simp) ?_; (case hd => rfl); (case hg => rfl); (case hr => first | (go_simp; done) | (go_simp; rfl)); (case hp => exact (Reps.c6 (show Kd.M k51 _ _ _ (⟨1, 2, 0, ([] : List Int), ([] : List (S65)), ([] : List (S71))⟩ : S51) [.int .i64 1, .int .i64 2, .int .i64 0, .slice none 0 0, .slice none 0 0, .slice none 0 0] from (k51_mkM _ _ _ (⟨1, 2, 0, ([] : List Int), ([] : List (S65)), ([] : List (S71))⟩ : S51) (Kd.R_nil _ _ _ _ _) (Kd.R_nil _ _ _ _ _) (Kd.R_nil _ _ _ _ _))) (Reps.none _ _))); intro v109 w2 ho3 hb hg_ hnew_; clear hg_ hnew_; (first | rw [← Ny108.out] at ho3 | (simp only [Int.reduceToNat] at ho3; rw [← Ny108.out] at ho3)); have HO110 := Aside0.mk (Kd.S_lower ho3 (below_size oB)); replace BK107 := kb_ BK107 hb; replace HB := Aside0.mk (below_step oB hb); clear hb ho3; obtain ⟨Ao4, co4, eo4⟩ := Kd.S_slice HO110.out; subst eo4; obtain ⟨⟨_, _⟩, _, _⟩ := z2 BK107))
 refine bodyPost_ret (results_cell_row rfl _ _ gb107 26 #[.slice Ao4 y108.length co4, .int .i64 2] (0, 0) _ rfl (oP BK107) Tryz.underlying26 rfl (by kernel_rfl)) rfl ?_
 exact ⟨_, oE, by (with_reducible repeat (first | apply Kd.S_alloc | apply Kd.S_drewN | apply Kd.S_drew)); exact Kd.S_mono (Kd.S_far (p := ⟨gb107, 1, none⟩) (Kd.S_far (p := ⟨gb107, 0, none⟩) (Kd.S_types HO110.out BK107.out (by decide)) (fun _ hk => hk.2) (.slice Ao4 y108.length co4)) (fun _ hk => hk.2) (.int .i64 2)) (fun _ hk => trivial), oB⟩

/-! ### impl_sized: function 49 -/
def impl_sized.f (l0 : List Int) (a1 : Int) : Option (List Int) := if 0 ≤ a1 ∧ a1.toNat ≤ 281474976710656 then some (l0.take (min l0.length a1.toNat) ++ (List.replicate a1.toNat 0).drop (min l0.length a1.toNat)) else none
set_option maxHeartbeats 1000000 in
set_option maxRecDepth 100000 in
theorem impl_sized.calls (A0 : Option Addr) (c0 : Nat) (l0 : List Int) (a1 : Int) (r : List Int) (w : World) (hr0 : Kd.C (Kd.int .u8) w A0 l0.length l0) (hc0 : l0.length ≤ c0) (h : impl_sized.f l0 a1 = some r) :
  Calls Tryz.prog 49 #[.slice A0 l0.length c0, .int .i64 a1] w fun e w' => ∃ v0_ : Value, e = .returned (v0_) ∧ Kd.R (Kd.int .u8) 5 w' w.heap.size (fun _ => True) v0_ r ∧ Below w.heap.size w w' := by
 unfold impl_sized.f at h
 split at h
 case isFalse => cases h
 case isTrue hl =>
 obtain ⟨h0, h1⟩ := hl
 obtain rfl := Option.some.inj h
 have H1 := Aside0.mk h1
 have H0 := Aside0.mk h0
 have HR0 := Aside0.mk hr0
 clear h h1 hr0
 have HB := Aside0.mk (Below.refl w.heap.size w)
 go_enter Tryz.func49, Tryz.ntmps49
 go_wp2_with (first | ((with_reducible refine gate_dst (N := 7) rfl ?_); refine Kd.R_make (Kd.int .u8) _ 5 rfl (N := 7) rfl 22 _ _ rfl a1 rfl rfl Tryz.underlying22 (.int .u8 0) 1 info5 rfl (by decide) (by omega) 0 (ok := fun _ => True) (okp := fun _ => True) rfl (fun _ hk => hk) trivial H0.out (by have := H1.out; omega) (Below.refl _ _) (Nat.le_refl _) ?_; intro v7 w1 ho hb hg_ hnew_; clear hg_ hnew_; have HO := Aside0.mk (Kd.R_lower ho (below_size oB)); replace HB := Aside0.mk (below_step oB hb); clear hb ho) | ((with_reducible refine gate_builtin (b := .copy) rfl ?_); refine Kd.R_copy (enc := fun n => Value.int .u8 n) (h1 := fun _ => rfl) 0 (w0 := w) w.heap.size rfl (.tmp 8) (.tmp 9) 22 22 5 rfl Tryz.underlying22 (by kernel_rfl) v7 _ l0 A0 l0.length c0 (fun _ => True) rfl rfl (oR HO) (kC HR0) oB (below_size oB) ?_; intro w2 ho hb hg; rw [List.length_replicate] at ho; have HO2 := Aside0.mk ho; replace HB := Aside0.mk hb; clear ho hb hg HO))
 go_ret
 exact ⟨_, rfl, oR HO2, oB⟩
/-! ### laws_big: function 11 -/
def laws_big.f (l0 : List Int) : Option (Bool) := some (decide ((l0.length : Int) > 1048576))
set_option maxHeartbeats 8000000 in
set_option maxRecDepth 100000 in
theorem laws_big.calls (A0 : Option Addr) (c0 : Nat) (l0 : List Int) (r : Bool) (w : World) (hr0 : Kd.C (Kd.int .u8) w A0 l0.length l0) (hc0 : l0.length ≤ c0) (h : laws_big.f l0 = some r) :
  Calls Tryz.prog 11 #[.slice A0 l0.length c0] w fun e w' => e = .returned (.bool r) ∧ Drawn0 w w' := by
 have HR0 := Aside0.mk hr0
 have HC0 := Aside0.mk hc0
 clear hr0 hc0
 unfold laws_big.f at h
 have H := h
 clear h
 obtain rfl := Option.some.inj H
 go_enter Tryz.func11, Tryz.ntmps11
 go_wp2
 go_ret
 exact ⟨oS, oD⟩

-- NOT PRINTED: function 91 (slices_IndexFunc_string_string)

-- NOT PRINTED: function 64 (slices_ContainsFunc_string_string)

-- NOT PRINTED: function 69 (slices_IndexFunc_Inode)

-- NOT PRINTED: function 107 (impl_Inode_107)

-- NOT PRINTED: function 146 (slices_Reverse_Inode)

-- NOT PRINTED: function 132 (impl_Inode_132)

-- NOT PRINTED: function 108 (impl_Inode_108)

-- NOT PRINTED: function 134 (strings_Join)

-- NOT PRINTED: function 79 (slices_IndexFunc_Ent)

-- NOT PRINTED: function 111 (impl_Ent_111)

-- NOT PRINTED: function 150 (slices_Reverse_Ent)

-- NOT PRINTED: function 135 (impl_Ent_135)

-- NOT PRINTED: function 112 (impl_Ent_112)

-- NOT PRINTED: function 76 (impl_Attr_76)

-- NOT PRINTED: function 133 (slices_Reverse_Attr)

-- NOT PRINTED: function 109 (impl_Attr_109)

-- NOT PRINTED: function 77 (impl_Attr_77)

end Go.Proofs.YtkcfmbggdkkfeaaGreatDoor.P
