-- By this session's own program (wip/myprint.py) out of the translation; Lean checks it.
import Derived.Test.YtkcfmbggdkkfeaaGreatDoorPx0
import Derived.Test.YtkcfmbggdkkfeaaGreatDoorPx2
import Derived.Test.YtkcfmbggdkkfeaaGreatDoorPx8
import Derived.Test.YtkcfmbggdkkfeaaGreatDoorPx9
import Derived.Test.YtkcfmbggdkkfeaaGreatDoorPx12
namespace Go.Proofs.YtkcfmbggdkkfeaaGreatDoor.P
open Go.RowKit Go.Proofs.YtkcfmbggdkkfeaaGreatDoorW.PrintWords Go.Proofs.YtkcfmbggdkkfeaaGreatDoorW.PrintLast Go.Proofs.YtkcfmbggdkkfeaaGreatDoorW.PrintMore
attribute [local go_sem] max2_int min2_int max_two min_two max_three min_three max_four min_four   -- for this text's walks alone
set_option linter.unusedVariables false
set_option linter.unusedSimpArgs false

/-! ### impl_spot_leave: function 60 -/
def eqS (a b : ByteArray) : Bool := a.toList == b.toList
def eqN (s : ByteArray) : List S65 → Nat → Int
 | [], _ => -1
 | x :: l, i => if (eqS x.f0 s) = true then (i : Int) else eqN s l (i + 1)
theorem entEq1.calls (s a : ByteArray) (b : Int) (B : Nat) (W : World) (hB : B < W.heap.size) (hc : W.cell? ⟨B, 6, none⟩ = some (.string s)) :
  Calls Tryz.prog 84 #[.agg #[.string a, .int .i64 b], .pointer (some ⟨B, 0, none⟩)] W fun e w' => e = .returned (.bool (eqS a s)) ∧ Below W.heap.size W w' := by
 have hne : B ≠ W.heap.size := by omega
 go_enter Tryz.func84, Tryz.ntmps84
 go_wp2
 all_goals (go_ret; exact ⟨by simp_all [eqS], (Below.refl _ W).alloc (Nat.le_refl _) _⟩)
theorem qrd_at (l : List S65) (k : Nat) (h : k < l.length) : rd_T65 l (k : Int) = l[k] := by
 simp [rd_T65, List.getD_eq_getElem?_getD, List.getElem?_eq_getElem h]
theorem eqN_hit (s : ByteArray) (l : List S65) (k j : Nat) (h : k < l.length) (hit : (eqS (rd_T65 l (k : Int)).f0 s) = true) : eqN s (l.drop k) j = (j : Int) := by
 rw [List.drop_eq_getElem_cons h, eqN, if_pos (by rw [← qrd_at l k h]; exact hit)]
theorem eqN_miss (s : ByteArray) (l : List S65) (k j : Nat) (h : k < l.length) (hit : (eqS (rd_T65 l (k : Int)).f0 s) = false) : eqN s (l.drop k) j = eqN s (l.drop (k + 1)) (j + 1) := by
 rw [List.drop_eq_getElem_cons h, eqN, if_neg (by rw [← qrd_at l k h, hit]; decide)]
set_option maxHeartbeats 400000 in
set_option maxRecDepth 100000 in
theorem entEq2.calls (s : ByteArray) (A0 : Option Addr) (c0 : Nat) (l : List S65) (B : Nat) (w : World) (hr : k65.C w A0 l.length l) (hB : B < w.heap.size) (hc : w.cell? ⟨B, 6, none⟩ = some (.string s)) (hl : l.length ≤ 9223372036854775807) :
  Calls Tryz.prog 79 #[.slice A0 l.length c0, .func (.func 84) #[] #[.pointer (some ⟨B, 0, none⟩)]] w fun e w' => e = .returned (.int .i64 (eqN s l 0)) ∧ Below w.heap.size w w' := by
 go_enter Tryz.func79, Tryz.ntmps79
 go_wp2
 go_loopg [5, 8] l.length (fun gg _ s8 wr => ∃ kk : Nat, kk ≤ l.length ∧ l.length - kk ≤ gg ∧ s8 = .int .i64 kk ∧ Aside0 (Below w.heap.size w wr) ∧ Aside0 (eqN s l 0 = eqN s (l.drop kk) kk))
 case atStart => exact ⟨0, Nat.zero_le _, by omega, rfl, ⟨Below.refl _ w⟩, ⟨rfl⟩⟩
 case round =>
  obtain ⟨kk, hkk, hg, rfl, BW, A⟩ := hrel
  by_cases hlt : kk < l.length
  ·have hltz : (kk : Int) < (l.length : Int) := by omega
   obtain ⟨ad, e0, h0, h1⟩ := at_T65 (Kd.C_below hr BW.out) (kk : Int) (by omega) hltz
   cases e0
   rw [Int.toNat_natCast] at h0 h1
   have hBw : B < wr.heap.size := Nat.lt_of_lt_of_le hB BW.out.size
   have hcw : wr.cell? ⟨B, 6, none⟩ = some (.string s) := (BW.out.cell (p := ⟨B, 6, none⟩) hB).trans hc
   cases hq : (eqS (rd_T65 l (kk : Int)).f0 s) with
   | true =>
    go_wp2_with (go_at_call 84; refine (entEq1.calls s _ _ B wr hBw hcw).mono ?_; rintro e w' ⟨rfl, hb'⟩; rw [hq])
    go_ret
    exact ⟨by rw [A.out, eqN_hit s l kk kk hlt hq]; rfl, below_then BW.out BW.out.size hb'⟩
   | false =>
    go_wp2_with (go_at_call 84; refine (entEq1.calls s _ _ B wr hBw hcw).mono ?_; rintro e w' ⟨rfl, hb'⟩; rw [hq])
    go_roundg (l.length - (kk + 1))
    case measure => omega
    case rel => exact ⟨kk + 1, by omega, by omega, by go_num, ⟨below_then BW.out BW.out.size hb'⟩, ⟨by rw [A.out, eqN_miss s l kk kk hlt hq]⟩⟩
  ·have hltz : ¬ (kk : Int) < (l.length : Int) := by omega
   obtain rfl : kk = l.length := by omega
   go_wp2
   go_ret
   exact ⟨by rw [A.out, List.drop_length]; rfl, BW.out⟩
def delN (s : ByteArray) (l : List S65) : List S65 := l.filter fun x => !(eqS x.f0 s)
theorem eqN_spec (s : ByteArray) (l : List S65) : ∀ j : Nat, (eqN s l j = -1 ∧ ∀ x ∈ l, (eqS x.f0 s) = false) ∨ ∃ i : Nat, eqN s l j = ((j + i : Nat) : Int) ∧ ∃ h : i < l.length, (eqS l[i].f0 s) = true ∧ ∀ (q : Nat) (hq : q < i), (eqS l[q].f0 s) = false := by
 induction l with
 | nil => intro j; exact .inl ⟨rfl, by simp⟩
 | cons x l ih =>
  intro j
  rw [eqN]
  cases c : (eqS x.f0 s) with
  | true => exact .inr ⟨0, by simp, by simp, c, fun q hq => by omega⟩
  | false =>
   rw [if_neg (by decide)]
   rcases ih (j + 1) with ⟨h1, h2⟩ | ⟨i, h1, h2, h3, h4⟩
   ·left
    refine ⟨h1, fun y hy => ?_⟩
    rcases List.mem_cons.1 hy with rfl | hy
    ·exact c
    ·exact h2 y hy
   ·right
    refine ⟨i + 1, by rw [h1]; congr 1; omega, by simpa using h2, by simpa using h3, fun q hq => ?_⟩
    cases q with
    | zero => exact c
    | succ q => exact h4 q (by omega)
theorem delN_all (s : ByteArray) (l : List S65) (h : ∀ x ∈ l, (eqS x.f0 s) = false) : delN s l = l := List.filter_eq_self.2 (fun x hx => by rw [h x hx]; rfl)
theorem delN_take (s : ByteArray) (l : List S65) (i : Nat) (h : i < l.length) (h1 : (eqS l[i].f0 s) = true) (h2 : ∀ (q : Nat) (hq : q < i), (eqS l[q].f0 s) = false) : delN s (l.take (i + 1)) = l.take i := by
 unfold delN
 rw [List.take_succ_eq_append_getElem h, List.filter_append, List.filter_cons_of_neg (by rw [h1]; decide), List.filter_nil, List.append_nil]
 exact List.filter_eq_self.2 (fun x hx => by
  obtain ⟨q, hq, rfl⟩ := List.getElem_of_mem hx
  rw [List.length_take] at hq
  rw [List.getElem_take, h2 q (by omega)]; rfl)
theorem delN_step (s : ByteArray) (l : List S65) (j : Nat) (h : j < l.length) : delN s (l.take (j + 1)) = delN s (l.take j) ++ (if (eqS l[j].f0 s) = true then [] else [l[j]]) := by
 unfold delN
 rw [List.take_succ_eq_append_getElem h, List.filter_append]
 congr 1
 cases c : (eqS l[j].f0 s) with
 | true => rw [if_pos rfl, List.filter_cons_of_neg (by rw [c]; decide), List.filter_nil]
 | false => rw [if_neg (by decide), List.filter_cons_of_pos (by rw [c]; rfl), List.filter_nil]
theorem zEnt_run (w : World) : (zeroValue 65).run Tryz.prog w = .ok (.agg #[.string ⟨#[]⟩, .int .i64 0]) w := by kernel_rfl
def encQ (x : S65) : List Value := [.string x.f0, .int .i64 x.f1]
set_option maxHeartbeats 2000000 in
set_option maxRecDepth 100000 in
theorem delEnt.calls (s : ByteArray) (A0 : Option Addr) (c0 : Nat) (l : List S65) (B : Nat) (ok : Nat → Prop) (w0 w : World) (hB : Below w0.heap.size w0 w) (hR : Kd.R k65 65 w w0.heap.size ok (.slice A0 l.length c0) l) (hBl : B < w.heap.size) (hc : w.cell? ⟨B, 6, none⟩ = some (.string s)) (hne : ¬ ok B) (hl : l.length ≤ 9223372036854775807) :
  Calls Tryz.prog 83 #[.slice A0 l.length c0, .func (.func 84) #[] #[.pointer (some ⟨B, 0, none⟩)]] w fun e w' => e = .returned (.slice A0 (delN s l).length c0) ∧ Kd.R k65 65 w' w0.heap.size ok (.slice A0 (delN s l).length c0) (delN s l) ∧ Below w0.heap.size w0 w' ∧ Kept w w' ok := by
 have hr := (Kd.R_reads' hR).2.2
 have HR0 := Aside0.mk hR
 have HB := Aside0.mk hB
 have HW := Aside0.mk hB.size
 have HN := Aside0.mk hne
 have hcall := entEq2.calls s A0 c0 l B w hr hBl hc hl
 clear hR hB hne hr
 rcases eqN_spec s l 0 with ⟨hp, hall⟩ | ⟨i0, hp, hi0, hhit, hbef⟩
 ·rw [hp] at hcall
  have HC := Aside0.mk hcall
  have HD := Aside0.mk (delN_all s l hall)
  clear hcall hc hall hp
  go_enter Tryz.func83, Tryz.ntmps83
  go_wp2_with (go_at_call 79; refine HC.out.mono ?_; rintro e w1 ⟨rfl, hb⟩)
  go_ret
  rw [HD.out]
  exact ⟨rfl, Kd.R_below HR0.out hb, below_then HB.out HW.out hb, Kept.of_below hb _⟩
 ·rw [Nat.zero_add] at hp
  rw [hp] at hcall
  have HC := Aside0.mk hcall
  have hids := delN_take s l i0 hi0 hhit hbef
  obtain ⟨g, cap, ev, gb, _, _⟩ := Kd.R_form HR0.out (by omega)
  injection ev with ea en ec
  subst ea
  clear en
  subst ec
  have hPg : ok g := HR0.out.1 g rfl
  have HP := Aside0.mk hPg
  have hBg : B ≠ g := fun he => HN.out (he ▸ hPg)
  have HR := Aside0.mk (Kd.R_mono (ok' := fun k => k = g) ((⟨fun k hk => by simpa [Value.ownBlock] using hk.symm, (rawR encQ (fun _ _ _ _ _ h => k65_openM h) HR0.out).2⟩ : (Kd.raw k65.sz).R 65 w w0.heap.size (fun k => k = g) (.slice (some ⟨g, 0, none⟩) l.length c0) (l.map encQ))) (fun _ h => h))
  have hil : (delN s (l.take (i0 + 1))).length = i0 := by rw [hids, List.length_take]; omega
  have HI := Aside0.mk (⟨by omega, by rw [hil, hids, List.map_take], List.length_map ..⟩ : (delN s (l.take (i0 + 1))).length < i0 + 1 ∧ (l.map encQ).take (delN s (l.take (i0 + 1))).length = (delN s (l.take (i0 + 1))).map encQ ∧ (l.map encQ).length = l.length)
  have HG := Aside0.mk gb
  have HCC := Aside0.mk hc
  clear hcall hc hhit hbef hp hids hPg gb
  go_enter Tryz.func83, Tryz.ntmps83
  go_wp2_with (go_at_call 79; refine HC.out.mono ?_; rintro e w1 ⟨rfl, hb⟩)
  replace HR := Aside0.mk (Kd.R_below HR.out hb)
  have HK := Aside0.mk (Kept.of_below hb (fun k => k = g))
  replace HB := Aside0.mk (below_then HB.out HW.out hb)
  clear hb HC HR0
  go_loopg [5, 6] l.length (fun gg s5 s6 wr => ∃ (jj : Nat) (rws : List (List Value)), jj ≤ l.length ∧ l.length - jj ≤ gg ∧ s5 = .int .i64 (delN s (l.take jj)).length ∧ s6 = .int .i64 jj ∧ Aside0 ((delN s (l.take jj)).length < jj ∧ rws.take (delN s (l.take jj)).length = (delN s (l.take jj)).map encQ ∧ rws.length = l.length) ∧ Aside0 (rws.drop jj = (l.map encQ).drop jj) ∧ Aside0 ((Kd.raw k65.sz).R 65 wr w0.heap.size (fun k => k = g) (.slice (some ⟨g, 0, none⟩) l.length c0) rws) ∧ Aside0 (Below w0.heap.size w0 wr) ∧ Aside0 (Kept w wr (fun k => k = g)))
  case atStart => exact ⟨i0 + 1, l.map encQ, by omega, by omega, by rw [hil], by go_num, HI, ⟨rfl⟩, HR, HB, HK⟩
  case round =>
   clear HR HB HK HI hil
   obtain ⟨jj, rws, hjj, hgg, rfl, rfl, HI, HD, HR, HB, HK⟩ := hrel
   by_cases hlt : jj < l.length
   ·have hltz : (jj : Int) < (l.length : Int) := by omega
    have hnn : (0 : Int) ≤ (jj : Int) := by omega
    have hjr : rws.getD jj [] = encQ l[jj] := by
     have := congrArg (fun L => L.getD 0 []) HD.out
     simpa [List.getD_eq_getElem?_getD, List.getElem?_drop, List.getElem?_map, List.getElem?_eq_getElem hlt] using this
    obtain ⟨c, hcl, hcm, hcc, hcf⟩ := Kd.R_elem HR.out [] (jj : Int) hnn hltz
    have hce : c = [.string l[jj].f0, .int .i64 l[jj].f1] := by
     have := hcm.1
     rw [Int.toNat_natCast, hjr] at this
     exact this
    have hone := hcm.2.2
    subst hce
    have c0_ : wr.cell? ⟨g, jj * 2, none⟩ = some (.string l[jj].f0) := hcc 0 _ rfl
    have c1_ : wr.cell? ⟨g, jj * 2 + 1, none⟩ = some (.int .i64 l[jj].f1) := hcc 1 _ rfl
    have hgs := Kd.R_lt HR.out g (by simp [Value.ownBlock])
    have hBw : B < wr.heap.size := Nat.lt_of_lt_of_le hBl HK.out.1
    have hcw : ∀ o, (wr.alloc o).cell? ⟨B, 6, none⟩ = some (.string s) := fun o => cB (W := wr.alloc o) ⟨below_alloc (Below.refl _ _) o⟩ (cell_kept HCC.out HK.out hBg)
    have HONE := Aside0.mk hone
    clear hcm hcc hcf hcl hone hjr
    have hst := delN_step s l jj hlt
    have hIx := HI.out
    obtain ⟨hmj, htk, hrwl⟩ := hIx
    cases hq : (eqS l[jj].f0 s) with
    | true =>
     rw [hq, if_pos rfl, List.append_nil] at hst
     have HST := Aside0.mk hst
     clear hst htk hmj hrwl
     go_wp2_with (go_at_call 84; refine (entEq1.calls s _ _ B _ (by simp only [World.size_alloc]; omega) (hcw _)).mono ?_; rintro e w2 ⟨rfl, hb⟩; rw [hq])
     go_roundg (l.length - (jj + 1))
     case measure => omega
     case rel =>
      have hb2 := bold hb
      refine ⟨jj + 1, rws, by omega, by omega, by rw [HST.out], by go_num, ⟨?_⟩, ⟨?_⟩, ⟨Kd.R_below HR.out hb2⟩, ⟨below_then HB.out HB.out.size hb2⟩, ⟨Kept.below HK.out hb2⟩⟩
      ·rw [HST.out]; have := HI.out; exact ⟨by omega, this.2⟩
      ·have := congrArg (fun L => L.drop 1) HD.out
       simpa [List.drop_drop, Nat.add_comm] using this
    | false =>
     rw [hq, if_neg (by decide)] at hst
     have HST := Aside0.mk hst
     generalize hm : (delN s (l.take jj)).length = m at hmj htk ⊢
     have HTK := Aside0.mk htk
     have hml : (m : Int) < (l.length : Int) := by omega
     have hm0 : (0 : Int) ≤ (m : Int) := by omega
     clear hst htk
     go_wp2_with (first | (go_at_call 84; refine (entEq1.calls s _ _ B _ (by simp only [World.size_alloc]; omega) (hcw _)).mono ?_; rintro e w2 ⟨rfl, hb⟩; rw [hq]; have KV := bnew hb; replace hb := bold hb; have zv := z2 KV; have HR2 := Aside0.mk (Kd.R_below HR.out hb); have HB2 := Aside0.mk (below_then HB.out HB.out.size hb); have HK2 := Aside0.mk (Kept.below HK.out hb)) | ((with_reducible refine gate_store (t := 65) (p := 33) rfl ?_); obtain ⟨c', hcl', hcm', hcc', _⟩ := Kd.R_elem HR2.out [] (m : Int) hm0 hml; refine Kd.R_store (Kd.raw k65.sz) w0.heap.size rfl rfl 65 (.tmp 33) (.tmp 32) rfl 65 (m : Int) 0 rws [.string l[jj].f0, .int .i64 l[jj].f1] (.agg [.string l[jj].f0, .int .i64 l[jj].f1].toArray) [.string l[jj].f0, .int .i64 l[jj].f1] c' (fun k => k = g) (fun _ => False) rfl (by simp; rfl) rfl rfl (by kernel_rfl) HONE.out HR2.out hm0 hml hcl' hcc' (Nat.le_refl _) ?_ (fun _ hk => hk.elim) HB2.out ?_; (first | (exact raw_whole hcl' rfl HONE.out) | skip); intro w3 hr3 hb3 hg3))
     go_roundg (l.length - (jj + 1))
     case measure => omega
     case rel =>
      rw [Int.toNat_natCast] at hr3
      have hT := HTK.out
      have hlen : (delN s (l.take (jj + 1))).length = m + 1 := by rw [HST.out, List.length_append, hm]; rfl
      refine ⟨jj + 1, rws.set m [.string l[jj].f0, .int .i64 l[jj].f1], by omega, by omega, by rw [hlen]; go_num, by go_num, ⟨?_⟩, ⟨?_⟩, ⟨hr3⟩, ⟨hb3⟩, ⟨Kept.of_grown hg3 HK2.out (fun k e => .inl (by injection e with e; exact e.symm))⟩⟩
      ·refine ⟨by omega, ?_, by rw [List.length_set]; exact hrwl⟩
       rw [hlen, HST.out, List.map_append, List.take_succ_eq_append_getElem (by rw [List.length_set]; omega), List.getElem_set_self, List.take_set_of_le (Nat.le_refl m), hT]
       rfl
      ·rw [List.drop_set_of_lt (by omega)]
       have := congrArg (fun L => L.drop 1) HD.out
       simpa [List.drop_drop, Nat.add_comm] using this
   ·have hltz : ¬ (jj : Int) < (l.length : Int) := by omega
    obtain rfl : jj = l.length := by omega
    have hIx := HI.out
    rw [List.take_length] at hIx ⊢
    obtain ⟨hmj, htk, hrwl⟩ := hIx
    have hcap := (Kd.R_reads' HR.out).2.1
    have HTK := Aside0.mk htk
    generalize hm : (delN s l).length = m at hmj htk ⊢
    have hml : (m : Int) < (l.length : Int) := by omega
    have hm0 : (0 : Int) ≤ (m : Int) := by omega
    obtain ⟨w1, hst, hr1, hg1⟩ := raw_clear (P := Tryz.prog) (zs := (Builtin.zeroCells (Value.agg #[.string ⟨#[]⟩, .int .i64 0]).cells (l.length - m)).toList) (i := m) HR.out (by omega) (by rw [Array.length_toList, size_zeroCells]; rfl) (zeroCells_one (by decide) _)
    have hrun := fun ty => run_clear (P := Tryz.prog) (ty := ty) (c := c0 - m) (show Tryz.prog.underlying 48 = some (.slice 65) by kernel_rfl) (zEnt_run wr) (show l.length - m ≠ 0 by omega) (show (storeCells ⟨g, m * 2, none⟩ (Builtin.zeroCells (Value.agg #[.string ⟨#[]⟩, .int .i64 0]).cells (l.length - m)).toList).run Tryz.prog wr = .ok () w1 from hst)
    have hk1 : Kept w w1 (fun k => k = g) := Kept.of_grown hg1 HK.out (fun k e => .inl (by injection e with e; exact e.symm))
    have hb1 : Below w0.heap.size w0 w1 := HB.out.grown hg1 HB.out.size (fun k e => by injection e with e; rw [← e]; exact HG.out)
    rw [htk] at hr1
    have HR1 := Aside0.mk (Kd.R_mono (ok' := ok) (unrawR (d := k65) encQ (fun _ _ _ x => k65_mkM _ _ _ x) hr1) (fun k hk => hk ▸ HP.out))
    clear hst hr1 htk
    go_wp2_with ((with_reducible refine gate_builtin (b := .clear) rfl ?_); refine builtin_event (w1 := w1) rfl rfl rfl (v := .tuple #[]) ?hr ?_; (case hr => go_simp; rw [hrun 0]; rfl); (intro w2 hw; subst hw))
    go_ret
    exact ⟨rfl, HR1.out, hb1, hk1.mono (fun k hk => by rw [hk]; exact HP.out)⟩
def impl_spot_leave.f (k : Nat) (a0_0 a0_1 a0_2 : Int) (l0_3 : List Int) (l0_4 : List S65) (l0_5 : List S71) (a0_6 : ByteArray) (l1_0 : List S51) (a1_1 : Int) : Option (List S51 × Int) :=
 (slices_Clone_Ent.f l0_4).bind fun y => if y.length ≤ 9223372036854775807 then impl_SetInode.f k l1_0 a1_1 a0_0 a0_1 a0_2 l0_3 (delN a0_6 y) l0_5 else none
set_option maxHeartbeats 4000000 in
set_option maxRecDepth 100000 in
theorem impl_spot_leave.calls (k : Nat) (a0_0 a0_1 a0_2 : Int) (A0_3 : Option Addr) (c0_3 : Nat) (l0_3 : List Int) (A0_4 : Option Addr) (c0_4 : Nat) (l0_4 : List S65) (A0_5 : Option Addr) (c0_5 : Nat) (l0_5 : List S71) (a0_6 : ByteArray) (A1_0 : Option Addr) (c1_0 : Nat) (l1_0 : List S51) (a1_1 : Int) (r1 : List S51) (r2 : Int) (w : World)
  (hr0_3 : Kd.C (Kd.int .u8) w A0_3 l0_3.length l0_3) (hc0_3 : l0_3.length ≤ c0_3) (hr0_4 : Kd.C k65 w A0_4 l0_4.length l0_4) (hc0_4 : l0_4.length ≤ c0_4) (hr0_5 : Kd.C k71 w A0_5 l0_5.length l0_5) (hc0_5 : l0_5.length ≤ c0_5) (hr1_0 : Kd.C k51 w A1_0 l1_0.length l1_0) (hc1_0 : l1_0.length ≤ c1_0) (h : impl_spot_leave.f k a0_0 a0_1 a0_2 l0_3 l0_4 l0_5 a0_6 l1_0 a1_1 = some (r1, r2)) :
  Calls Tryz.prog 60 #[.agg #[.int .i64 a0_0, .int .i64 a0_1, .int .i64 a0_2, .slice A0_3 l0_3.length c0_3, .slice A0_4 l0_4.length c0_4, .slice A0_5 l0_5.length c0_5, .string a0_6], .agg #[.slice A1_0 l1_0.length c1_0, .int .i64 a1_1]] w fun e w' => ∃ v0_ : Value, e = .returned (.agg #[v0_, .int .i64 r2]) ∧ Kd.S k51 51 w' w.heap.size (fun _ => True) v0_ r1 ∧ Below w.heap.size w w' := by
 unfold impl_spot_leave.f at h
 replace h := bA h
 obtain ⟨y, H1, h⟩ := h
 split at h
 case isFalse => cases h
 case isTrue hl =>
 have HLY := Aside0.mk hl
 obtain ⟨Y, hY⟩ : ∃ Y, Y = delN a0_6 y := ⟨_, rfl⟩
 rw [← hY] at h
 have HY := Aside0.mk hY
 have H2 := Aside0.mk h
 have HR3 := Aside0.mk hr0_3
 have HC3 := Aside0.mk hc0_3
 have HR4 := Aside0.mk hr0_4
 have HC4 := Aside0.mk hc0_4
 have HR5 := Aside0.mk hr0_5
 have HC5 := Aside0.mk hc0_5
 have HR0 := Aside0.mk hr1_0
 have HC0 := Aside0.mk hc1_0
 clear hl h hY hr0_3 hc0_3 hr0_4 hc0_4 hr0_5 hc0_5 hr1_0 hc1_0
 have HB := Aside0.mk (Below.refl w.heap.size w)
 go_enter Tryz.func60, Tryz.ntmps60
 go_upto_region 2 with (first | ((with_reducible refine gate_dst (N := 2) rfl ?_); refine bx_ 2 #[.int .i64 a0_0, .int .i64 a0_1, .int .i64 a0_2, .slice A0_3 l0_3.length c0_3, .slice A0_4 l0_4.length c0_4, .slice A0_5 l0_5.length c0_5, .string a0_6] 84 ?_; intro gb3 hg w1 hbox hb; have BK3 := Aside0.mk hbox; have GW3 := gs_ hg; replace HB := Aside0.mk (below_step oB hb); clear hb hbox hg) | ((with_reducible refine gate_dst (N := 3) rfl ?_); refine bx_ 3 #[.slice A1_0 l1_0.length c1_0, .int .i64 a1_1] 26 ?_; intro gb4 hg w2 hbox hb; have BK4 := Aside0.mk hbox; have GW4 := gs_ hg; have NB34 := nl_ hg BK3; have NB43 := nr_ hg BK3; replace BK3 := kb_ BK3 hb; replace HB := Aside0.mk (below_step oB hb); clear hb hbox hg) | ((with_reducible refine gate_dst (N := 4) rfl ?_); refine bx_ 4 #[.slice none 0 0, .int .i64 0] 26 ?_; intro gb6 hg w3 hbox hb; have BK6 := Aside0.mk hbox; have GW6 := gs_ hg; have NB36 := nl_ hg BK3; have NB63 := nr_ hg BK3; have NB46 := nl_ hg BK4; have NB64 := nr_ hg BK4; replace BK3 := kb_ BK3 hb; replace BK4 := kb_ BK4 hb; replace HB := Aside0.mk (below_step oB hb); clear hb hbox hg; obtain ⟨⟨_, _, _, _, _, _, _⟩, _, _, _, _, _, _, _⟩ := z7 BK3) | ((with_reducible refine gate_callee (f := 82) rfl ?_); refine gl_ 8 Tryz.func82 (slices_Clone_Ent.calls _ _ l0_4 y _ (kC HR4) HC4.out H1.out) ?_; rintro e w4 ⟨v8, rfl, ho, hb⟩; refine ⟨_, rfl, ?_⟩; have HO := Aside0.mk (Kd.R_lower (Kd.R_newB (Kd.R_newB (Kd.R_newB ho (oF BK3)) (oF BK4)) (oF BK6)) (below_size oB)); replace BK3 := kb_ BK3 hb; replace BK4 := kb_ BK4 hb; replace BK6 := kb_ BK6 hb; replace HB := Aside0.mk (below_step oB hb); clear hb ho; obtain ⟨A8, c8, rfl⟩ := Kd.R_slice HO.out) | (go_at_call 83; refine (delEnt.calls a0_6 A8 c8 y gb3 (fun k_ => k_ ≠ gb3 ∧ k_ ≠ gb4 ∧ k_ ≠ gb6) w _ oB (Kd.R_mono (oR HO) (fun _ hk => ⟨hk.1.1.2, hk.1.2, hk.2⟩)) (blk_lt (oF BK3)) ((blk_cell (oF BK3) 6).trans rfl) (fun h => h.1 rfl) HLY.out).mono ?_; rw [← HY.out]; rintro e w5 ⟨rfl, hr, hb, hk⟩; have HO8 := Aside0.mk hr; replace BK3 := bkept ⟨oF BK3⟩ hk (fun h => h.1 rfl); replace BK4 := bkept ⟨oF BK4⟩ hk (fun h => h.2.1 rfl); replace BK6 := bkept ⟨oF BK6⟩ hk (fun h => h.2.2 rfl); replace HB := Aside0.mk hb; clear hr hb hk HO; obtain ⟨⟨_, _, _, _, _, _, _⟩, _, _, _, _, _, _, _⟩ := z7 BK3))
 have n3_ : Aside0 ((w5.setCell ⟨gb3, 4, none⟩ (.slice A8 Y.length c8)).heap[gb3]? = some (.cells #[.int .i64 a0_0, .int .i64 a0_1, .int .i64 a0_2, .slice A0_3 l0_3.length c0_3, .slice A8 Y.length c8, .slice A0_5 l0_5.length c0_5, .string a0_6] 84 (0, 0))) := ⟨oP BK3⟩
 have n4_ := Aside0.mk (Kd.R_far (p := ⟨gb3, 4, none⟩) HO8.out (fun _ hk => hk.1) (.slice A8 Y.length c8))
 generalize hW_ : w5.setCell ⟨gb3, 4, none⟩ (.slice A8 Y.length c8) = w9 at n3_ n4_ ⊢
 replace BK4 := kw_ hW_ BK4
 replace BK6 := kw_ hW_ BK6
 replace HB := hw_ hW_ HB
 clear BK3 HO8 hW_
 obtain ⟨⟨_, _, _, _, _, _, _⟩, _, _, _, _, _, _, _⟩ := z7 n3_
 obtain ⟨⟨_, _⟩, _, _⟩ := z2 BK4
 go_wp2_with ((with_reducible refine gate_callee (f := 50) rfl ?_); refine gl_ 16 Tryz.func50 (impl_SetInode.calls k _ _ l1_0 a1_1 a0_0 a0_1 a0_2 _ _ l0_3 _ _ Y _ _ l0_5 r1 r2 _ (kC HR0) HC0.out (kC HR3) HC3.out (kO n4_) (ko n4_) (kC HR5) HC5.out H2.out) ?_; rintro e w10 ⟨v0, rfl, hs, hb⟩; refine ⟨_, rfl, ?_⟩; obtain ⟨A0, c0, rfl⟩ := Kd.S_slice hs; have HS := siv' hs w9.heap.size w.heap.size (Nat.le_refl _) (below_size HB.out); have hl6 := Aside0.mk (blk_lt BK6.out); replace BK6 := kb_ BK6 hb; replace HB := Aside0.mk (below_step oB hb); clear hs hb; obtain ⟨⟨_, _⟩, _, _⟩ := z2 BK6)
 refine bodyPost_ret (results_cell_row rfl _ _ gb6 26 #[.slice A0 r1.length c0, .int .i64 r2] (0, 0) _ rfl (oP BK6) Tryz.underlying26 rfl (by kernel_rfl)) rfl ?_
 exact ⟨_, rfl, Kd.S_mono (Kd.S_far (Kd.S_far HS.out (fun k_ hk => by have := hk.1; have := hl6.out; dsimp only; omega) _) (fun k_ hk => by have := hk.1; have := hl6.out; dsimp only; omega) _) (fun _ _ => trivial), oB⟩
-- NOT PRINTED: function 85 (slices_DeleteFunc_Inode)

/-! ### impl_DropInode: function 61 -/
theorem sOpen {α : Type} {d : Kd α} {e : Nat} {W : World} {base : Nat} {ok : Nat → Prop} {g n cap : Nat} {xs : List α} (h : Kd.S d e W base ok (.slice (some ⟨g, 0, none⟩) n cap) xs) :
  ∃ (rows : List (List Value)) (f : Nat → Nat), rows.length = xs.length ∧ (Kd.raw d.sz).R e W base (fun k => k = g) (.slice (some ⟨g, 0, none⟩) n cap) rows ∧ ok g ∧
   ∀ (q : Nat) (x : α), xs[q]? = some x → d.M W base (fun k => (ok k ∧ k ≠ g) ∧ f k = q) x (rows.getD q []) := by
 obtain ⟨f, hok0, inner, ho, hr⟩ := h
 have hgo : some g = (Value.slice (some ⟨g, 0, none⟩) n cap).ownBlock := by simp [Value.ownBlock]
 have hlen : inner.length = xs.length * d.sz := by have := hr.1; rw [List.length_zipIdx] at this; exact this
 have hM : ∀ (q : Nat) (x : α), xs[q]? = some x → d.M W base (fun k => (ok k ∧ k ≠ g) ∧ f k = q) x ((inner.drop (q * d.sz)).take d.sz) := fun q x hx =>
  d.M_mono (fun k hk => ⟨⟨hk.1.1, fun he => hk.1.2 (by rw [he]; exact hgo)⟩, hk.2⟩) (hr.2 q (x, q) (Kd.zip_at hx))
 have hrow : ∀ q, q < xs.length → ((List.range xs.length).map fun j => (inner.drop (j * d.sz)).take d.sz)[q]? = some ((inner.drop (q * d.sz)).take d.sz) := fun q hq => by
  rw [List.getElem?_map, List.getElem?_range hq]; rfl
 refine ⟨(List.range xs.length).map fun j => (inner.drop (j * d.sz)).take d.sz, f, by rw [List.length_map, List.length_range], ⟨fun k hk => ?_, inner, ?_, ?_, fun j p hj => ?_⟩, hok0 g hgo.symm, fun q x hx => ?_⟩
 ·rw [← hgo] at hk; injection hk with hk; exact hk.symm
 ·rw [List.length_map, List.length_range]; rw [List.length_zipIdx] at ho; exact ho
 ·rw [List.length_map, List.length_range]; exact hlen
 ·rw [List.getElem?_map] at hj
  obtain ⟨j', hj', rfl⟩ := Option.map_eq_some_iff.1 hj
  obtain ⟨hl, he⟩ := List.getElem?_eq_some_iff.1 hj'
  rw [List.getElem_range] at he
  subst he
  rw [List.length_range] at hl
  have hm := d.K_of_M (hM j _ (List.getElem?_eq_getElem hl))
  exact ⟨rfl, d.K_len hm, d.K_one hm⟩
 ·have hq : q < xs.length := (List.getElem?_eq_some_iff.1 hx).1
  rw [List.getD_eq_getElem?_getD, hrow q hq]
  exact hM q x hx
theorem sShut {α : Type} {d : Kd α} {e : Nat} {W W1 : World} {base : Nat} {ok okr : Nat → Prop} {g m cap : Nat} {xs : List α} {rows rows' : List (List Value)} {f : Nat → Nat} {ids : List Nat} (z : α)
  (hraw : (Kd.raw d.sz).R e W1 base okr (.slice (some ⟨g, 0, none⟩) m cap) rows') (hnd : ids.Nodup) (hids : ∀ q ∈ ids, q < xs.length) (hrows : rows' = ids.map (fun q => rows.getD q []))
  (hM : ∀ (q : Nat) (x : α), xs[q]? = some x → d.M W base (fun k => (ok k ∧ k ≠ g) ∧ f k = q) x (rows.getD q []))
  (hmove : ∀ k, k ≠ g → k < W.heap.size → W1.heap[k]? = W.heap[k]?) (hg : ok g) : Kd.S d e W1 base ok (.slice (some ⟨g, 0, none⟩) m cap) (ids.map fun q => xs.getD q z) := by
 subst hrows
 obtain ⟨_, inner, ho, hr⟩ := hraw
 have hgo : some g = (Value.slice (some ⟨g, 0, none⟩) m cap).ownBlock := by simp [Value.ownBlock]
 refine ⟨fun k => ids.idxOf (f k), fun k hk => ?_, inner, ?_, ?_, fun j p hj => ?_⟩
 ·rw [← hgo] at hk; injection hk with hk; exact hk ▸ hg
 ·rw [List.length_zipIdx, List.length_map]; rw [List.length_map] at ho; exact ho
 ·rw [List.length_zipIdx, List.length_map]; have := hr.1; rw [List.length_map] at this; exact this
 ·rw [List.getElem?_zipIdx, Nat.zero_add] at hj
  obtain ⟨y, hy, rfl⟩ := Option.map_eq_some_iff.1 hj
  rw [List.getElem?_map] at hy
  obtain ⟨q, hq, rfl⟩ := Option.map_eq_some_iff.1 hy
  obtain ⟨hjl, hjq⟩ := List.getElem?_eq_some_iff.1 hq
  have hql := hids q (List.mem_of_getElem? hq)
  have hrw := (hr.2 j (rows.getD q []) (by rw [List.getElem?_map, hq]; rfl)).1
  show d.M W1 base _ (xs.getD q z) ((inner.drop (j * d.sz)).take d.sz)
  rw [show (inner.drop (j * d.sz)).take d.sz = rows.getD q [] from hrw]
  have hx : xs[q]? = some (xs.getD q z) := by rw [List.getD_eq_getElem?_getD, List.getElem?_eq_getElem hql]; rfl
  refine d.M_mono (fun k hk => ⟨⟨hk.1.1.1, fun he => hk.1.1.2 (by rw [← hgo] at he; injection he)⟩, ?_⟩) (d.M_move (w1 := W1) (fun k hk => hmove k hk.1.1.2 hk.2.2.1) (d.M_bound (hM q _ hx)))
  show ids.idxOf (f k) = j
  rw [hk.1.2, ← hjq]
  exact hnd.idxOf_getElem j hjl
def dropR (ino : Int) : List S51 → Nat → Int
 | [], _ => -1
 | x :: l, i => if x.f0 = ino then (i : Int) else dropR ino l (i + 1)
theorem dropOf1.calls (ino a b c : Int) (A3 A4 A5 : Option Addr) (n3 c3 n4 c4 n5 c5 : Nat) (B : Nat) (W : World) (hB : B < W.heap.size) (hc : W.cell? ⟨B, 0, none⟩ = some (.int .i64 ino)) :
  Calls Tryz.prog 86 #[.agg #[.int .i64 a, .int .i64 b, .int .i64 c, .slice A3 n3 c3, .slice A4 n4 c4, .slice A5 n5 c5], .pointer (some ⟨B, 0, none⟩)] W fun e w' => e = .returned (.bool (a == ino)) ∧ Below W.heap.size W w' := by
 have hne : B ≠ W.heap.size := by omega
 go_enter Tryz.func86, Tryz.ntmps86
 go_wp2
 all_goals (go_ret; exact ⟨by simp_all, (Below.refl _ W).alloc (Nat.le_refl _) _⟩)
theorem dropR_none (ino : Int) (l : List S51) (i : Nat) (h : ∀ x ∈ l, x.f0 ≠ ino) : dropR ino l i = -1 := by
 induction l generalizing i with
 | nil => rfl
 | cons x l ih => rw [dropR, if_neg (h x (List.mem_cons_self ..))]; exact ih (i + 1) (fun y hy => h y (List.mem_cons_of_mem _ hy))
theorem drd_at (l : List S51) (k : Nat) (h : k < l.length) : rd_T51 l (k : Int) = l[k] := by
 simp [rd_T51, List.getD_eq_getElem?_getD, List.getElem?_eq_getElem h]
theorem dropR_hit (ino : Int) (l : List S51) (k j : Nat) (h : k < l.length) (hit : (rd_T51 l (k : Int)).f0 = ino) : dropR ino (l.drop k) j = (j : Int) := by
 rw [List.drop_eq_getElem_cons h, dropR, if_pos (by rw [← drd_at l k h]; exact hit)]
theorem dropR_miss (ino : Int) (l : List S51) (k j : Nat) (h : k < l.length) (hit : (rd_T51 l (k : Int)).f0 ≠ ino) : dropR ino (l.drop k) j = dropR ino (l.drop (k + 1)) (j + 1) := by
 rw [List.drop_eq_getElem_cons h, dropR, if_neg (by rw [← drd_at l k h]; exact hit)]
set_option maxHeartbeats 400000 in
set_option maxRecDepth 100000 in
theorem dropOf2.calls (ino : Int) (A0 : Option Addr) (c0 : Nat) (l : List S51) (B : Nat) (w : World) (hr : k51.C w A0 l.length l) (hB : B < w.heap.size) (hc : w.cell? ⟨B, 0, none⟩ = some (.int .i64 ino)) (hl : l.length ≤ 9223372036854775807) :
  Calls Tryz.prog 69 #[.slice A0 l.length c0, .func (.func 86) #[] #[.pointer (some ⟨B, 0, none⟩)]] w fun e w' => e = .returned (.int .i64 (dropR ino l 0)) ∧ Below w.heap.size w w' := by
 go_enter Tryz.func69, Tryz.ntmps69
 go_wp2
 go_loopg [5, 8] l.length (fun gg _ s8 wr => ∃ kk : Nat, kk ≤ l.length ∧ l.length - kk ≤ gg ∧ s8 = .int .i64 kk ∧ Aside0 (Below w.heap.size w wr) ∧ Aside0 (dropR ino l 0 = dropR ino (l.drop kk) kk))
 case atStart => exact ⟨0, Nat.zero_le _, by omega, rfl, ⟨Below.refl _ w⟩, ⟨rfl⟩⟩
 case round =>
  obtain ⟨kk, hkk, hg, rfl, BW, A⟩ := hrel
  by_cases hlt : kk < l.length
  ·have hltz : (kk : Int) < (l.length : Int) := by omega
   obtain ⟨ad, A3, c3, A4, c4, A5, c5, e0, h0, h1, h2, h3, h4, h5, _⟩ := at_T51 (Kd.C_below hr BW.out) (kk : Int) (by omega) hltz
   cases e0
   rw [Int.toNat_natCast] at h0 h1 h2 h3 h4 h5
   have hBw : B < wr.heap.size := Nat.lt_of_lt_of_le hB BW.out.size
   have hcw : wr.cell? ⟨B, 0, none⟩ = some (.int .i64 ino) := (BW.out.cell (p := ⟨B, 0, none⟩) hB).trans hc
   by_cases hit : (rd_T51 l (kk : Int)).f0 = ino
   ·have hq : ((rd_T51 l (kk : Int)).f0 == ino) = true := by simpa using hit
    go_wp2_with (go_at_call 86; refine (dropOf1.calls ino _ _ _ _ _ _ _ _ _ _ _ _ B wr hBw hcw).mono ?_; rintro e w' ⟨rfl, hb'⟩)
    go_ret
    exact ⟨by rw [A.out, dropR_hit ino l kk kk hlt hit]; rfl, below_then BW.out BW.out.size hb'⟩
   ·have hq : ((rd_T51 l (kk : Int)).f0 == ino) = false := by simpa using hit
    go_wp2_with (go_at_call 86; refine (dropOf1.calls ino _ _ _ _ _ _ _ _ _ _ _ _ B wr hBw hcw).mono ?_; rintro e w' ⟨rfl, hb'⟩)
    go_roundg (l.length - (kk + 1))
    case measure => omega
    case rel => exact ⟨kk + 1, by omega, by omega, by go_num, ⟨below_then BW.out BW.out.size hb'⟩, ⟨by rw [A.out, dropR_miss ino l kk kk hlt hit]⟩⟩
  ·have hltz : ¬ (kk : Int) < (l.length : Int) := by omega
   obtain rfl : kk = l.length := by omega
   go_wp2
   go_ret
   exact ⟨by rw [A.out, List.drop_length]; rfl, BW.out⟩
def keepQ (ino : Int) (l : List S51) (q : Nat) : Bool := !decide ((rd_T51 l (q : Int)).f0 = ino)
def dropL (ino : Int) (l : List S51) : List S51 := l.filter fun x => !decide (x.f0 = ino)
theorem range_getD {α : Type} (l : List α) (z : α) (i : Nat) (h : i ≤ l.length) : (List.range i).map (fun q => l.getD q z) = l.take i := by
 apply List.ext_getElem?
 intro j
 rw [List.getElem?_map, List.getElem?_take]
 by_cases hj : j < i
 ·rw [List.getElem?_range hj, if_pos hj, List.getElem?_eq_getElem (by omega)]
  simp [List.getD_eq_getElem?_getD, List.getElem?_eq_getElem (show j < l.length by omega)]
 ·rw [if_neg hj, List.getElem?_eq_none (by simpa using hj)]; rfl
theorem dropL_ids (ino : Int) (l : List S51) : ((List.range l.length).filter (keepQ ino l)).map (fun q => l.getD q z51) = dropL ino l := by
 have h := range_getD l z51 l.length (Nat.le_refl _)
 rw [List.take_length] at h
 unfold dropL
 conv => rhs; rw [← h]
 rw [List.filter_map]
 rfl
theorem dropR_spec (ino : Int) (l : List S51) : ∀ j : Nat, (dropR ino l j = -1 ∧ ∀ x ∈ l, x.f0 ≠ ino) ∨ ∃ i : Nat, dropR ino l j = ((j + i : Nat) : Int) ∧ ∃ h : i < l.length, l[i].f0 = ino ∧ ∀ (q : Nat) (hq : q < i), l[q].f0 ≠ ino := by
 induction l with
 | nil => intro j; exact .inl ⟨rfl, by simp⟩
 | cons x l ih =>
  intro j
  rw [dropR]
  by_cases c : x.f0 = ino
  ·rw [if_pos c]
   exact .inr ⟨0, by simp, by simp, c, fun q hq => by omega⟩
  ·rw [if_neg c]
   rcases ih (j + 1) with ⟨h1, h2⟩ | ⟨i, h1, h2, h3, h4⟩
   ·left
    refine ⟨h1, fun y hy => ?_⟩
    rcases List.mem_cons.1 hy with rfl | hy
    ·exact c
    ·exact h2 y hy
   ·right
    refine ⟨i + 1, by rw [h1]; congr 1; omega, by simpa using h2, by simpa using h3, fun q hq => ?_⟩
    cases q with
    | zero => exact c
    | succ q => exact h4 q (by omega)
theorem keepQ_at (ino : Int) (l : List S51) (q : Nat) (h : q < l.length) : keepQ ino l q = !decide (l[q].f0 = ino) := by
 unfold keepQ; rw [drd_at l q h]
theorem ids_start (ino : Int) (l : List S51) (i : Nat) (h : i < l.length) (h1 : l[i].f0 = ino) (h2 : ∀ (q : Nat) (hq : q < i), l[q].f0 ≠ ino) : (List.range (i + 1)).filter (keepQ ino l) = List.range i := by
 rw [List.range_succ, List.filter_append, List.filter_cons_of_neg (by rw [keepQ_at ino l i h]; simp [h1]), List.filter_nil, List.append_nil]
 exact List.filter_eq_self.2 (fun q hq => by
  have hq := List.mem_range.1 hq
  rw [keepQ_at ino l q (by omega)]
  simpa using h2 q hq)
theorem ids_step (ino : Int) (l : List S51) (j : Nat) : (List.range (j + 1)).filter (keepQ ino l) = (List.range j).filter (keepQ ino l) ++ (if keepQ ino l j = true then [j] else []) := by
 rw [List.range_succ, List.filter_append]
 congr 1
 by_cases c : keepQ ino l j = true
 ·rw [if_pos c, List.filter_cons_of_pos c, List.filter_nil]
 ·rw [if_neg c, List.filter_cons_of_neg c, List.filter_nil]
theorem dropL_all (ino : Int) (l : List S51) (h : ∀ x ∈ l, x.f0 ≠ ino) : dropL ino l = l := List.filter_eq_self.2 (fun x hx => by simpa using h x hx)
def zInode : Value := .agg #[.int .i64 0, .int .i64 0, .int .i64 0, .slice none 0 0, .slice none 0 0, .slice none 0 0]
theorem zInode_run (w : World) : (zeroValue 51).run Tryz.prog w = .ok zInode w := by kernel_rfl
set_option maxHeartbeats 2000000 in
set_option maxRecDepth 100000 in
theorem deleteFunc.calls (ino : Int) (A0 : Option Addr) (c0 : Nat) (l : List S51) (B : Nat) (P0 : Nat → Prop) (w0 w : World) (hB : Below w0.heap.size w0 w) (hS : Kd.S k51 51 w w0.heap.size P0 (.slice A0 l.length c0) l) (hBl : B < w.heap.size) (hc : w.cell? ⟨B, 0, none⟩ = some (.int .i64 ino)) (hne : ¬ P0 B) (hl : l.length ≤ 9223372036854775807) :
  Calls Tryz.prog 85 #[.slice A0 l.length c0, .func (.func 86) #[] #[.pointer (some ⟨B, 0, none⟩)]] w fun e w' => e = .returned (.slice A0 (dropL ino l).length c0) ∧ Kd.S k51 51 w' w0.heap.size P0 (.slice A0 (dropL ino l).length c0) (dropL ino l) ∧ Below w0.heap.size w0 w' ∧ Kept w w' P0 := by
 have hr := (Kd.S_reads' hS).2.2
 have HS := Aside0.mk hS
 have HB := Aside0.mk hB
 have HW := Aside0.mk hB.size
 have HN := Aside0.mk hne
 have hcall := dropOf2.calls ino A0 c0 l B w hr hBl hc hl
 clear hS hB hne hr
 rcases dropR_spec ino l 0 with ⟨hp, hall⟩ | ⟨i0, hp, hi0, hhit, hbef⟩
 ·rw [hp] at hcall
  have HC := Aside0.mk hcall
  have HD := Aside0.mk (dropL_all ino l hall)
  clear hcall hc hall hp
  go_enter Tryz.func85, Tryz.ntmps85
  go_wp2_with (go_at_call 69; refine HC.out.mono ?_; rintro e w1 ⟨rfl, hb⟩)
  go_ret
  rw [HD.out]
  exact ⟨rfl, Kd.S_below HS.out hb, below_then HB.out HW.out hb, Kept.of_below hb _⟩
 ·rw [Nat.zero_add] at hp
  rw [hp] at hcall
  have HC := Aside0.mk hcall
  have hids := ids_start ino l i0 hi0 hhit hbef
  obtain ⟨g, cap, ev, gb, _, _⟩ := Kd.S_form HS.out (by omega)
  injection ev with ea en ec
  subst ea
  clear en
  subst ec
  obtain ⟨rows, f, hrl, hraw, hPg, hM⟩ := sOpen HS.out
  have HM := Aside0.mk hM
  have HP := Aside0.mk hPg
  have hBg : B ≠ g := fun he => HN.out (he ▸ hPg)
  have HR := Aside0.mk hraw
  have HI := Aside0.mk (⟨by rw [hids, List.length_range]; omega, by rw [hids, List.length_range, ← range_getD rows [] i0 (by omega)], hrl⟩ : ((List.range (i0 + 1)).filter (keepQ ino l)).length < i0 + 1 ∧ rows.take ((List.range (i0 + 1)).filter (keepQ ino l)).length = ((List.range (i0 + 1)).filter (keepQ ino l)).map (fun q => rows.getD q []) ∧ rows.length = l.length)
  have hil : ((List.range (i0 + 1)).filter (keepQ ino l)).length = i0 := by rw [hids, List.length_range]
  have HG := Aside0.mk gb
  have HCC := Aside0.mk hc
  clear hcall hc hhit hbef hp hids hraw hM hPg gb
  go_enter Tryz.func85, Tryz.ntmps85
  go_wp2_with (go_at_call 69; refine HC.out.mono ?_; rintro e w1 ⟨rfl, hb⟩)
  replace HR := Aside0.mk (Kd.R_below HR.out hb)
  have HK := Aside0.mk (Kept.of_below hb (fun k => k = g))
  replace HB := Aside0.mk (below_then HB.out HW.out hb)
  clear hb HC
  go_loopg [5, 6] l.length (fun gg s5 s6 wr => ∃ (jj : Nat) (rws : List (List Value)), jj ≤ l.length ∧ l.length - jj ≤ gg ∧ s5 = .int .i64 ((List.range jj).filter (keepQ ino l)).length ∧ s6 = .int .i64 jj ∧ Aside0 (((List.range jj).filter (keepQ ino l)).length < jj ∧ rws.take ((List.range jj).filter (keepQ ino l)).length = ((List.range jj).filter (keepQ ino l)).map (fun q => rows.getD q []) ∧ rws.length = l.length) ∧ Aside0 (rws.drop jj = rows.drop jj) ∧ Aside0 ((Kd.raw k51.sz).R 51 wr w0.heap.size (fun k => k = g) (.slice (some ⟨g, 0, none⟩) l.length c0) rws) ∧ Aside0 (Below w0.heap.size w0 wr) ∧ Aside0 (Kept w wr (fun k => k = g)))
  case atStart => exact ⟨i0 + 1, rows, by omega, by omega, by rw [hil], by go_num, HI, ⟨rfl⟩, HR, HB, HK⟩
  case round =>
   clear HR HB HK HI hil
   obtain ⟨jj, rws, hjj, hgg, rfl, rfl, HI, HD, HR, HB, HK⟩ := hrel
   by_cases hlt : jj < l.length
   ·have hltz : (jj : Int) < (l.length : Int) := by omega
    have hnn : (0 : Int) ≤ (jj : Int) := by omega
    have hM := HM.out jj l[jj] (List.getElem?_eq_getElem hlt)
    obtain ⟨v3, v4, v5, hcs, g3, g4, g5⟩ := k51_openM hM
    obtain ⟨A3, b3, rfl⟩ := Kd.R_slice g3
    obtain ⟨A4, b4, rfl⟩ := Kd.R_slice g4
    obtain ⟨A5, b5, rfl⟩ := Kd.R_slice g5
    clear hM g3 g4 g5
    have hjr : rws.getD jj [] = rows.getD jj [] := by
     have := congrArg (fun L => L.getD 0 []) HD.out
     simpa [List.getD_eq_getElem?_getD, List.getElem?_drop] using this
    obtain ⟨c, hcl, hcm, hcc, hcf⟩ := Kd.R_elem HR.out [] (jj : Int) hnn hltz
    have hce : c = [.int .i64 l[jj].f0, .int .i64 l[jj].f1, .int .i64 l[jj].f2, .slice A3 l[jj].f3.length b3, .slice A4 l[jj].f4.length b4, .slice A5 l[jj].f5.length b5] := by
     have := hcm.1
     rw [Int.toNat_natCast, hjr, hcs] at this
     exact this
    have hone := hcm.2.2
    subst hce
    have c0_ : wr.cell? ⟨g, jj * 6, none⟩ = some (.int .i64 l[jj].f0) := hcc 0 _ rfl
    have c1_ : wr.cell? ⟨g, jj * 6 + 1, none⟩ = some (.int .i64 l[jj].f1) := hcc 1 _ rfl
    have c2_ : wr.cell? ⟨g, jj * 6 + 2, none⟩ = some (.int .i64 l[jj].f2) := hcc 2 _ rfl
    have c3_ : wr.cell? ⟨g, jj * 6 + 3, none⟩ = some (.slice A3 l[jj].f3.length b3) := hcc 3 _ rfl
    have c4_ : wr.cell? ⟨g, jj * 6 + 4, none⟩ = some (.slice A4 l[jj].f4.length b4) := hcc 4 _ rfl
    have c5_ : wr.cell? ⟨g, jj * 6 + 5, none⟩ = some (.slice A5 l[jj].f5.length b5) := hcc 5 _ rfl
    have hgs := Kd.R_lt HR.out g (by simp [Value.ownBlock])
    have hBw : B < wr.heap.size := Nat.lt_of_lt_of_le hBl HK.out.1
    have hcw : ∀ o, (wr.alloc o).cell? ⟨B, 0, none⟩ = some (.int .i64 ino) := fun o => cB (W := wr.alloc o) ⟨below_alloc (Below.refl _ _) o⟩ (cell_kept HCC.out HK.out hBg)
    have HJ := Aside0.mk hjr
    have HCS := Aside0.mk hcs
    have HONE := Aside0.mk hone
    clear hcm hcc hcf hcl hone hjr hcs
    have hst := ids_step ino l jj
    have hIx := HI.out
    obtain ⟨hmj, htk, hrwl⟩ := hIx
    by_cases hk : l[jj].f0 = ino
    ·have hq : (l[jj].f0 == ino) = true := by simpa using hk
     rw [if_neg (by rw [keepQ_at ino l jj hlt]; simp [hk]), List.append_nil] at hst
     have HST := Aside0.mk hst
     clear hk hst htk hmj hrwl
     go_wp2_with (go_at_call 86; refine (dropOf1.calls ino _ _ _ _ _ _ _ _ _ _ _ _ B _ (by simp only [World.size_alloc]; omega) (hcw _)).mono ?_; rintro e w2 ⟨rfl, hb⟩; rw [hq])
     go_roundg (l.length - (jj + 1))
     case measure => omega
     case rel =>
      have hb2 := bold hb
      refine ⟨jj + 1, rws, by omega, by omega, by rw [HST.out], by go_num, ⟨?_⟩, ⟨?_⟩, ⟨Kd.R_below HR.out hb2⟩, ⟨below_then HB.out HB.out.size hb2⟩, ⟨Kept.below HK.out hb2⟩⟩
      ·rw [HST.out]; have := HI.out; exact ⟨by omega, this.2⟩
      ·have := congrArg (fun L => L.drop 1) HD.out
       simpa [List.drop_drop, Nat.add_comm] using this
    ·have hq : (l[jj].f0 == ino) = false := by simpa using hk
     rw [if_pos (by rw [keepQ_at ino l jj hlt]; simp [hk])] at hst
     have HST := Aside0.mk hst
     generalize hm : ((List.range jj).filter (keepQ ino l)).length = m at hmj htk ⊢
     have HTK := Aside0.mk htk
     have hml : (m : Int) < (l.length : Int) := by omega
     have hm0 : (0 : Int) ≤ (m : Int) := by omega
     clear hk hst htk
     go_wp2_with (first
      | (go_at_call 86; refine (dropOf1.calls ino _ _ _ _ _ _ _ _ _ _ _ _ B _ (by simp only [World.size_alloc]; omega) (hcw _)).mono ?_; rintro e w2 ⟨rfl, hb⟩; rw [hq]; have KV := bnew hb; replace hb := bold hb; have zv := z6 KV; have HR2 := Aside0.mk (Kd.R_below HR.out hb); have HB2 := Aside0.mk (below_then HB.out HB.out.size hb); have HK2 := Aside0.mk (Kept.below HK.out hb))
      | ((with_reducible refine gate_store (t := 51) (p := 33) rfl ?_); obtain ⟨c', hcl', hcm', hcc', _⟩ := Kd.R_elem HR2.out [] (m : Int) hm0 hml; refine Kd.R_store (Kd.raw k51.sz) w0.heap.size rfl rfl 51 (.tmp 33) (.tmp 32) rfl 51 (m : Int) 0 rws [.int .i64 l[jj].f0, .int .i64 l[jj].f1, .int .i64 l[jj].f2, .slice A3 l[jj].f3.length b3, .slice A4 l[jj].f4.length b4, .slice A5 l[jj].f5.length b5] (.agg [.int .i64 l[jj].f0, .int .i64 l[jj].f1, .int .i64 l[jj].f2, .slice A3 l[jj].f3.length b3, .slice A4 l[jj].f4.length b4, .slice A5 l[jj].f5.length b5].toArray) [.int .i64 l[jj].f0, .int .i64 l[jj].f1, .int .i64 l[jj].f2, .slice A3 l[jj].f3.length b3, .slice A4 l[jj].f4.length b4, .slice A5 l[jj].f5.length b5] c' (fun k => k = g) (fun _ => False) rfl (by simp; rfl) rfl rfl (by kernel_rfl) HONE.out HR2.out hm0 hml hcl' hcc' (Nat.le_refl _) ?_ (fun _ hk => hk.elim) HB2.out ?_; (first | (exact raw_whole hcl' rfl HONE.out) | skip); intro w3 hr3 hb3 hg3))
     go_roundg (l.length - (jj + 1))
     case measure => omega
     case rel =>
      rw [Int.toNat_natCast] at hr3
      have hT := HTK.out
      have hlen : ((List.range (jj + 1)).filter (keepQ ino l)).length = m + 1 := by rw [HST.out, List.length_append, hm]; rfl
      refine ⟨jj + 1, rws.set m [.int .i64 l[jj].f0, .int .i64 l[jj].f1, .int .i64 l[jj].f2, .slice A3 l[jj].f3.length b3, .slice A4 l[jj].f4.length b4, .slice A5 l[jj].f5.length b5], by omega, by omega, by rw [hlen]; go_num, by go_num, ⟨?_⟩, ⟨?_⟩, ⟨hr3⟩, ⟨hb3⟩, ⟨Kept.of_grown hg3 HK2.out (fun k e => .inl (by injection e with e; exact e.symm))⟩⟩
      ·refine ⟨by omega, ?_, by rw [List.length_set]; exact hrwl⟩
       rw [hlen, HST.out, List.map_append, List.take_succ_eq_append_getElem (by rw [List.length_set]; omega), List.getElem_set_self, List.take_set_of_le (Nat.le_refl m), hT, List.map_cons, List.map_nil, HCS.out]
      ·rw [List.drop_set_of_lt (by omega)]
       have := congrArg (fun L => L.drop 1) HD.out
       simpa [List.drop_drop, Nat.add_comm] using this
   ·have hltz : ¬ (jj : Int) < (l.length : Int) := by omega
    obtain rfl : jj = l.length := by omega
    obtain ⟨hmj, htk, hrwl⟩ := HI.out
    have hcap := (Kd.R_reads' HR.out).2.1
    have hids := dropL_ids ino l
    have hnd : ((List.range l.length).filter (keepQ ino l)).Nodup := (List.nodup_range).sublist List.filter_sublist
    have hin : ∀ q ∈ (List.range l.length).filter (keepQ ino l), q < l.length := fun q hq => List.mem_range.1 (List.mem_filter.1 hq).1
    have hdl : (dropL ino l).length = ((List.range l.length).filter (keepQ ino l)).length := by rw [← hids, List.length_map]
    generalize hm : ((List.range l.length).filter (keepQ ino l)).length = m at hmj htk hdl ⊢
    have HIDS := Aside0.mk hids
    have HTK := Aside0.mk htk
    have HND := Aside0.mk hnd
    have HIN := Aside0.mk hin
    have HDL := Aside0.mk hdl
    have hml : (m : Int) < (l.length : Int) := by omega
    have hm0 : (0 : Int) ≤ (m : Int) := by omega
    clear hids htk hnd hin hdl
    obtain ⟨w1, hst, hr1, hg1⟩ := raw_clear (P := Tryz.prog) (zs := (Builtin.zeroCells zInode.cells (l.length - m)).toList) (i := m) HR.out (by omega) (by rw [Array.length_toList, size_zeroCells]; rfl) (zeroCells_one (by decide) _)
    have hrun := fun ty => run_clear (P := Tryz.prog) (ty := ty) (c := c0 - m) (show Tryz.prog.underlying 24 = some (.slice 51) by kernel_rfl) (zInode_run wr) (show l.length - m ≠ 0 by omega) (show (storeCells ⟨g, m * 6, none⟩ (Builtin.zeroCells zInode.cells (l.length - m)).toList).run Tryz.prog wr = .ok () w1 from hst)
    have hk1 : Kept w w1 (fun k => k = g) := Kept.of_grown hg1 HK.out (fun k e => .inl (by injection e with e; exact e.symm))
    have hb1 : Below w0.heap.size w0 w1 := HB.out.grown hg1 HB.out.size (fun k e => by injection e with e; rw [← e]; exact HG.out)
    have hs1 := sShut z51 hr1 HND.out HIN.out HTK.out HM.out (fun k hk hlt => hk1.2 k hlt hk) HP.out
    rw [HIDS.out] at hs1
    have HS1 := Aside0.mk hs1
    clear hs1 hst
    go_wp2_with ((with_reducible refine gate_builtin (b := .clear) rfl ?_); refine builtin_event (w1 := w1) rfl rfl rfl (v := .tuple #[]) ?hr ?_; (case hr => go_simp; rw [hrun 0]; rfl); (intro w2 hw; subst hw))
    go_ret
    rw [HDL.out]
    exact ⟨rfl, HS1.out, hb1, hk1.mono (fun k hk => by rw [hk]; exact HP.out)⟩
def impl_DropInode.f (k : Nat) (l0_0 : List S51) (a0_1 a1 : Int) : Option (List S51 × Int) := (impl_copyTab.f k l0_0 a0_1).bind fun t => if (t.1.length : Int) ≤ 9223372036854775807 then some (dropL a1 t.1, t.2) else none
set_option maxHeartbeats 1000000 in
set_option maxRecDepth 100000 in
theorem impl_DropInode.calls (k : Nat) (A0_0 : Option Addr) (c0_0 : Nat) (l0_0 : List S51) (a0_1 a1 : Int) (r1 : List S51) (r2 : Int) (w : World) (hr0_0 : Kd.C k51 w A0_0 l0_0.length l0_0) (hc0_0 : l0_0.length ≤ c0_0) (h : impl_DropInode.f k l0_0 a0_1 a1 = some (r1, r2)) :
  Calls Tryz.prog 61 #[.agg #[.slice A0_0 l0_0.length c0_0, .int .i64 a0_1], .int .i64 a1] w fun e w' => ∃ v0_ : Value, e = .returned (.agg #[v0_, .int .i64 r2]) ∧ Kd.S k51 51 w' w.heap.size (fun _ => True) v0_ r1 ∧ Below w.heap.size w w' := by
 unfold impl_DropInode.f at h
 replace h := bA h
 obtain ⟨⟨t1, t2⟩, H1, h⟩ := h
 split at h
 case isFalse => cases h
 case isTrue hl =>
 simp only [Option.some.injEq, Prod.mk.injEq] at h
 obtain ⟨rfl, rfl⟩ := h
 have hl' : t1.length ≤ 9223372036854775807 := by dsimp only at hl; omega
 have HL := Aside0.mk hl'
 clear hl hl'
 have HR0 := Aside0.mk hr0_0
 have HC0 := Aside0.mk hc0_0
 clear hr0_0 hc0_0
 have HB := Aside0.mk (Below.refl w.heap.size w)
 go_enter Tryz.func61, Tryz.ntmps61
 go_wp2_with fail
 refine (impl_copyTab.calls k _ _ l0_0 a0_1 t1 t2 _ (kC HR0) HC0.out H1.out).mono ?_
 rintro e w2 ⟨v0, rfl, hs, hb⟩
 obtain ⟨A, c, rfl⟩ := Kd.S_slice hs
 have KT := Aside0.mk (blk_below (blk_alloc (blk_alloc (blk_new _ _) _) _) hb)
 have KI := Aside0.mk (blk_below (blk_alloc (blk_new _ _) _) hb)
 have KR := Aside0.mk (blk_below (blk_new _ _) hb)
 simp only [World.size_alloc] at KI KR
 have S1 := siv' hs (w.heap.size + 3) w.heap.size (by simp) (by simp only [World.size_alloc]; omega)
 have n1 : w.heap.size + 3 ≤ w2.heap.size := by have := hb.size; simpa using this
 replace HB := Aside0.mk (below_step (below_alloc (below_alloc (below_alloc (Below.refl _ _) _) _) _) hb)
 clear hs hb
 have zt := z2 KT
 have zi := z1 KI
 have zr := z2 KR
 have W0 := Aside0.mk (rfl : w.heap.size = w.heap.size)
 have KT3 := Aside0.mk (show ((w2.setCell ⟨w.heap.size, 0, none⟩ (.slice A t1.length c)).setCell ⟨w.heap.size, 1, none⟩ (.int .i64 t2)).heap[w.heap.size]? = some (.cells #[.slice A t1.length c, .int .i64 t2] 26 (0, 0)) by simpa using blk_set (blk_set KT.out 0 (.slice A t1.length c)) 1 (.int .i64 t2))
 have KI3 := Aside0.mk (show ((w2.setCell ⟨w.heap.size, 0, none⟩ (.slice A t1.length c)).setCell ⟨w.heap.size, 1, none⟩ (.int .i64 t2)).heap[w.heap.size + 1]? = some (.cells #[.int .i64 a1] 3 (0, 0)) by rw [Below.heap_setCell _ _ _ _ (by simp), Below.heap_setCell _ _ _ _ (by simp)]; exact KI.out)
 have KR3 := Aside0.mk (show ((w2.setCell ⟨w.heap.size, 0, none⟩ (.slice A t1.length c)).setCell ⟨w.heap.size, 1, none⟩ (.int .i64 t2)).heap[w.heap.size + 1 + 1]? = some (.cells #[.slice none 0 0, .int .i64 0] 26 (0, 0)) by rw [Below.heap_setCell _ _ _ _ (by simp; omega), Below.heap_setCell _ _ _ _ (by simp; omega)]; exact KR.out)
 have HB3 := Aside0.mk ((HB.out.setCell (p := ⟨w.heap.size, 0, none⟩) (Nat.le_refl _) (.slice A t1.length c)).setCell (p := ⟨w.heap.size, 1, none⟩) (Nat.le_refl _) (.int .i64 t2))
 have S3 := Aside0.mk (Kd.S_far (p := ⟨w.heap.size, 1, none⟩) (Kd.S_far (p := ⟨w.heap.size, 0, none⟩) S1.out (fun k hk => by have := hk.1; dsimp only; omega) (.slice A t1.length c)) (fun k hk => by have := hk.1; dsimp only; omega) (.int .i64 t2))
 go_wp2_with fail
 refine (deleteFunc.calls a1 A c t1 (w.heap.size + 1) (fun k => w.heap.size + 3 ≤ k ∧ k < w2.heap.size) w _ HB3.out S3.out (blk_lt KI3.out) (z1 KI3).1 (by omega) HL.out).mono ?_
 rintro e w4 ⟨rfl, hs, hb, hk⟩
 replace KT := bkept KT3 hk (fun h => by omega)
 replace KR := bkept KR3 hk (fun h => by omega)
 have S4 := Aside0.mk hs
 replace HB := Aside0.mk hb
 clear hs hb hk KT3 KI3 KR3 HB3 S3 S1 KI zi zt zr
 have zt := z2 KT
 have zr := z2 KR
 go_wp2_with fail
 try simp only [Exit.inBlock, Exit.then]
 refine bodyPost_ret (results_cell_row rfl _ _ (w.heap.size + 1 + 1) 26 #[.slice A (dropL a1 t1).length c, .int .i64 t2] (0, 0) _ rfl (by refine blk_put (cs := #[.slice A (dropL a1 t1).length c, .int .i64 0]) ?_ 1 _ rfl; refine blk_put (cs := #[.slice none 0 0, .int .i64 0]) ?_ 0 _ rfl; rw [Below.heap_setCell _ _ _ _ (by simp; omega)]; exact KR.out) Tryz.underlying26 rfl (by kernel_rfl)) rfl ?_
 refine ⟨_, rfl, ?_, ?_⟩
 ·exact Kd.S_mono (Kd.S_far (Kd.S_far (Kd.S_far S4.out (fun k hk => by have := hk.1; dsimp only; omega) _) (fun k hk => by have := hk.1; dsimp only; omega) _) (fun k hk => by have := hk.1; dsimp only; omega) _) (fun _ _ => trivial)
 ·exact ((HB.out.setCell (by dsimp only; omega) _).setCell (by dsimp only; omega) _).setCell (by dsimp only; omega) _
/-! ### impl_Unlink: function 29 -/
def impl_Unlink.j0 : Nat → ByteArray → Bool → List (S51) → Int → Option ((List (S51)) × Int × Int)
 | 0, _, _, _, _ => none
 | k + 1, x1, x20, x542000, x542001 => if x20 = true then (some (x542000, x542001, 1)) else ((impl_fileAt.f k x542000 x542001 x1).bind fun bt551 => (if bt551.2.2.2.2.2.2 = 0 then ((impl_spotOf.f k x542000 x542001 x1).bind fun bt565 => ((impl_spot_leave.f k bt565.1 bt565.2.1 bt565.2.2.1 bt565.2.2.2.1 bt565.2.2.2.2.1 bt565.2.2.2.2.2.1 bt565.2.2.2.2.2.2.1 x542000 x542001).bind fun bt580 => (if (wrap64 (bt551.2.2.1 - 1)) = 0 then ((impl_DropInode.f k bt580.1 bt580.2 bt551.1).bind fun bt584 => (some (bt584.1, bt584.2, 0))) else ((impl_SetInode.f k bt580.1 bt580.2 bt551.1 bt551.2.1 (wrap64 (bt551.2.2.1 - 1)) bt551.2.2.2.1 bt551.2.2.2.2.1 bt551.2.2.2.2.2.1).bind fun bt588 => (some (bt588.1, bt588.2, 0)))))) else (some (x542000, x542001, bt551.2.2.2.2.2.2))))
def impl_Unlink.f (k : Nat) (l0_0 : List (S51)) (a0_1 : Int) (a1 : ByteArray) : Option ((List (S51)) × Int × Int) := (impl_copyTab.f k l0_0 a0_1).bind fun bt543 => ((impl_ready.f k bt543.1 bt543.2 (([a1] : List ByteArray))).bind fun t550 => (if t550 = true then (impl_Unlink.j0 k a1 (a1.toList == ([47] : List UInt8)) bt543.1 bt543.2) else (impl_Unlink.j0 k a1 true bt543.1 bt543.2)))
set_option maxHeartbeats 8000000 in
set_option maxRecDepth 100000 in
theorem impl_Unlink.calls (k : Nat) (A0_0 : Option Addr) (c0_0 : Nat) (l0_0 : List (S51)) (a0_1 : Int) (a1 : ByteArray) (r1 : List (S51)) (r2 : Int) (r3 : Int) (w : World) (hr0_0 : Kd.C k51 w A0_0 l0_0.length l0_0) (hc0_0 : l0_0.length ≤ c0_0) (h : impl_Unlink.f k l0_0 a0_1 a1 = some (r1, r2, r3)) (hG : GOk w := by exact gk_ oB (by first | (with_reducible assumption) | assumption)) :
  Calls Tryz.prog 29 #[.agg #[.slice A0_0 l0_0.length c0_0, .int .i64 a0_1], .string a1] w fun e w' => ∃ v0_ : Value, e = .returned (.tuple #[.agg #[v0_, .int .i64 r2], .int .i64 r3]) ∧ Kd.S k51 51 w' w.heap.size (fun _ => True) v0_ r1 ∧ Below w.heap.size w w' := by
 have HG := Aside0.mk hG
 clear hG
 have hu26 := Tryz.underlying26
 have hu51 := Tryz.underlying51
 have hu84 := Tryz.underlying84
 have HR0_0 := Aside0.mk hr0_0
 have HC0_0 := Aside0.mk hc0_0
 clear hr0_0 hc0_0
 have HB := Aside0.mk (Below.refl w.heap.size w)
 unfold impl_Unlink.f at h
 have H := h
 clear h
 replace H := bA H
 obtain ⟨⟨t543, t546⟩, A3, H⟩ := H
 try dsimp only at H
 have HC4 := Aside0.mk H
 clear H
 go_enter Tryz.func29, Tryz.ntmps29
 go_upto_region 2 with (first | ((with_reducible refine gate_dst (N := 2) rfl ?_); refine bx_ 2 #[.slice A0_0 l0_0.length c0_0, .int .i64 a0_1] 26 ?_; intro gb541 hg w5 hbox hb; have BK541 := Aside0.mk (hbox); have GW541 := gs_ hg; replace HB := Aside0.mk (below_step oB hb); clear hb hbox hg) | ((with_reducible refine gate_dst (N := 4) rfl ?_); refine bx_ 4 #[.slice none 0 0, .int .i64 0] 26 ?_; intro gb542 hg w6 hbox hb; have BK542 := Aside0.mk (hbox); have GW542 := gs_ hg; have NB541_542 := nl_ hg BK541; have NB542_541 := nr_ hg BK541; replace BK541 := kb_ BK541 hb; replace HB := Aside0.mk (below_step oB hb); clear hb hbox hg; have hnb7 := NB541_542.out; have hnc7 := NB542_541.out; obtain ⟨⟨_, _⟩, _, _⟩ := z2 BK541) | ((with_reducible refine gate_callee (f := 45) rfl ?_); refine gl_ 11 Tryz.func45 (impl_copyTab.calls k _ _ l0_0 a0_1 t543 t546 _ (kC HR0_0) HC0_0.out A3.out) ?_; rintro e w9 ⟨v544, rfl, ho0, hb⟩; refine ⟨_, rfl, ?_⟩; have HO545 := Aside0.mk (Kd.S_lower ho0 (below_size oB)); replace BK541 := kb_ BK541 hb; replace BK542 := kb_ BK542 hb; replace HB := Aside0.mk (below_step oB hb); obtain ⟨Ao10, co10, eo10⟩ := Kd.S_slice HO545.out; subst eo10; obtain ⟨⟨_, _⟩, _, _⟩ := z2 BK541))
 (try simp only [Act.put, List.setIfInBounds_toArray, List.set_cons_zero, List.set_cons_succ])
 go_cut [20] (fun v20 wc => ∃ (kq : Nat) (x20_3 : Bool), v20 = .bool x20_3 ∧ Aside0 (impl_Unlink.j0 kq a1 x20_3 t543 t546 = some (r1, r2, r3)) ∧ Aside0 (kq ≤ k) ∧ Aside0 (Kd.S k51 51 wc w.heap.size (fun _ => True) (.slice Ao10 t543.length co10) t543) ∧ Aside0 (wc.heap[gb541]? = some (.cells #[(.slice Ao10 t543.length co10), .int .i64 t546] 26 (0, 0))) ∧ Aside0 (wc.heap[gb542]? = some (.cells #[(.slice none 0 0), .int .i64 0] 26 (0, 0))) ∧ Aside0 (Below w.heap.size w wc))
 case first =>
  have H := HC4.out
  clear HC4
  obtain ⟨y547, hy547⟩ : ∃ y_ : List ByteArray, y_ = (([a1] : List ByteArray)) := ⟨_, rfl⟩
  replace H : ((impl_ready.f k t543 t546 y547).bind fun t550 => (if t550 = true then (impl_Unlink.j0 k a1 (a1.toList == ([47] : List UInt8)) t543 t546) else (impl_Unlink.j0 k a1 true t543 t546))) = some (r1, r2, r3) := by first | (rw [hy547]; with_reducible exact H) | (have H2_ := (Option.bind_some _ _).symm.trans H; rw [hy547]; with_reducible exact H2_) | (have H2_ := (Option.bind_some _ _).symm.trans H; with_reducible exact H2_) | with_reducible exact H | (rw [hy547]; exact H) | exact H
  have Ny547 := Aside0.mk hy547
  clear hy547
  replace H := bA H
  obtain ⟨t550, A12, H⟩ := H
  try dsimp only at H
  replace H := itB H
  rcases H with ⟨rfl, H⟩ | ⟨rfl, H⟩
  ·have H' := Aside0.mk H
   clear H
   have hnb14 := NB541_542.out
   have hnc14 := NB542_541.out
   obtain ⟨⟨_, _⟩, _, _⟩ := z2 BK541
   go_wp2_with (first | ((with_reducible refine gate_dst (N := 14) rfl ?_); refine Kd.R_lit Kd.string _ 9 ?hg (N := 14) ?hd (xs := ([a1] : List ByteArray)) (inner := [.string a1]) (ok := fun _ => True) (okp := fun _ => True) ?hr ?hp (fun _ hk => hk) trivial (Below.refl _ _) (Nat.le_refl _) (by simp) ?_; (case hd => rfl); (case hg => rfl); (case hr => first | (go_simp; done) | (go_simp; rfl)); (case hp => exact (Reps.one (show Kd.M Kd.string _ _ _ a1 [.string a1] from rfl) (Reps.none _ _))); intro v548 w16 ho17 hb hg_ hnew_; clear hg_ hnew_; (first | rw [← Ny547.out] at ho17 | (simp only [Int.reduceToNat] at ho17; rw [← Ny547.out] at ho17)); have HO549 := Aside0.mk (Kd.R_lower ho17 (below_size oB)); replace HO545 := beS1 HO545 BK541 hb; replace BK541 := kp_ #[.slice Ao10 t543.length co10, .int .i64 t546] BK541 hb; replace BK542 := kb_ BK542 hb; replace HB := Aside0.mk (below_step oB hb); clear hb ho17; obtain ⟨Ao18, co18, eo18⟩ := Kd.R_slice HO549.out; subst eo18) | ((with_reducible refine gate_callee (f := 46) rfl ?_); refine gl_ 15 Tryz.func46 (impl_ready.calls k _ _ t543 t546 _ _ y547 true _ (rcS0 HO545) (rnS HO545) (kO HO549) (ko HO549) A12.out) ?_; rintro e w19 ⟨rfl, hb⟩; refine ⟨_, rfl, ?_⟩; replace HO545 := beS0 HO545 hb; replace HO549 := kr_ HO549 hb; replace BK541 := kb_ BK541 hb; replace BK542 := kb_ BK542 hb; replace HB := Aside0.mk (below_step oB hb)))
   go_meet
   case rel => exact ⟨_, ((a1.toList == ([47] : List UInt8))), oS, H', ⟨by first | omega | exact Nat.le_refl _⟩, ⟨by (with_reducible repeat (first | apply Kd.S_alloc | apply Kd.S_drewN | apply Kd.S_drew)); exact HO545.out⟩, ⟨oF BK541⟩, ⟨oF BK542⟩, ⟨oB⟩⟩
  ·have H' := Aside0.mk H
   clear H
   have hnb20 := NB541_542.out
   have hnc20 := NB542_541.out
   obtain ⟨⟨_, _⟩, _, _⟩ := z2 BK541
   go_wp2_with (first | ((with_reducible refine gate_dst (N := 14) rfl ?_); refine Kd.R_lit Kd.string _ 9 ?hg (N := 14) ?hd (xs := ([a1] : List ByteArray)) (inner := [.string a1]) (ok := fun _ => True) (okp := fun _ => True) ?hr ?hp (fun _ hk => hk) trivial (Below.refl _ _) (Nat.le_refl _) (by simp) ?_; (case hd => rfl); (case hg => rfl); (case hr => first | (go_simp; done) | (go_simp; rfl)); (case hp => exact (Reps.one (show Kd.M Kd.string _ _ _ a1 [.string a1] from rfl) (Reps.none _ _))); intro v548 w22 ho23 hb hg_ hnew_; clear hg_ hnew_; (first | rw [← Ny547.out] at ho23 | (simp only [Int.reduceToNat] at ho23; rw [← Ny547.out] at ho23)); have HO549 := Aside0.mk (Kd.R_lower ho23 (below_size oB)); replace HO545 := beS1 HO545 BK541 hb; replace BK541 := kp_ #[.slice Ao10 t543.length co10, .int .i64 t546] BK541 hb; replace BK542 := kb_ BK542 hb; replace HB := Aside0.mk (below_step oB hb); clear hb ho23; obtain ⟨Ao24, co24, eo24⟩ := Kd.R_slice HO549.out; subst eo24) | ((with_reducible refine gate_callee (f := 46) rfl ?_); refine gl_ 15 Tryz.func46 (impl_ready.calls k _ _ t543 t546 _ _ y547 false _ (rcS0 HO545) (rnS HO545) (kO HO549) (ko HO549) A12.out) ?_; rintro e w25 ⟨rfl, hb⟩; refine ⟨_, rfl, ?_⟩; replace HO545 := beS0 HO545 hb; replace HO549 := kr_ HO549 hb; replace BK541 := kb_ BK541 hb; replace BK542 := kb_ BK542 hb; replace HB := Aside0.mk (below_step oB hb)))
   go_meet
   case rel => exact ⟨_, (true), oS, H', ⟨by first | omega | exact Nat.le_refl _⟩, ⟨by (with_reducible repeat (first | apply Kd.S_alloc | apply Kd.S_drewN | apply Kd.S_drew)); exact HO545.out⟩, ⟨oF BK541⟩, ⟨oF BK542⟩, ⟨oB⟩⟩
 case rest =>
  clear HC4
  obtain ⟨kq, x20_3, rfl, HA, HJ3, HO_542000, BK541, BK542, HB⟩ := hcut
  cases kq with
  | zero => exact absurd HA.out (by simp [impl_Unlink.j0])
  | succ kj3 =>
   have H := HA.out
   clear HA
   simp only [impl_Unlink.j0] at H
   replace H := itB H
   rcases H with ⟨rfl, H⟩ | ⟨rfl, H⟩
   ·simp only [Option.some.injEq, Prod.mk.injEq] at H
    obtain ⟨rfl, rfl, rfl⟩ := H
    have hnb27 := NB541_542.out
    have hnc27 := NB542_541.out
    obtain ⟨⟨_, _⟩, _, _⟩ := z2 BK541
    obtain ⟨⟨_, _⟩, _, _⟩ := z2 BK542
    go_wp2
    refine bodyPost_ret (results_ct rfl _ _ gb542 26 #[.slice Ao10 t543.length co10, .int .i64 t546] (0, 0) _ rfl (oP BK542) Tryz.underlying26 rfl (by kernel_rfl)) rfl ?_
    exact ⟨_, oE, by (with_reducible repeat (first | apply Kd.S_alloc | apply Kd.S_drewN | apply Kd.S_drew)); exact Kd.S_mono (Kd.S_far (p := ⟨gb542, 1, none⟩) (Kd.S_far (p := ⟨gb542, 0, none⟩) (Kd.S_types HO_542000.out BK542.out (by decide)) (fun _ hk => hk.2) (.slice Ao10 t543.length co10)) (fun _ hk => hk.2) (.int .i64 t546)) (fun _ hk => trivial), oB⟩
   ·replace H := bA H
    obtain ⟨⟨t551, t552, t553, t554, t557, t560, t563⟩, A30, H⟩ := H
    try dsimp only at H
    by_cases c31 : t563 = 0
    ·rw [if_pos c31] at H
     have c31b0 : (t563 == 0) = true := beq_iff_eq.mpr c31
     have c31b1 : (t563 != 0) = false := bne_eq_false_iff_eq.mpr c31
     clear c31
     replace H := bA H
     obtain ⟨⟨t565, t566, t567, t568, t571, t574, t577, t578⟩, A32, H⟩ := H
     try dsimp only at H
     replace H := bA H
     obtain ⟨⟨t580, t583⟩, A33, H⟩ := H
     try dsimp only at H
     by_cases c34 : (wrap64 (t553 - 1)) = 0
     ·rw [if_pos c34] at H
      have c34b0 : ((wrap64 (t553 - 1)) == 0) = true := beq_iff_eq.mpr c34
      have c34b1 : ((wrap64 (t553 - 1)) != 0) = false := bne_eq_false_iff_eq.mpr c34
      clear c34
      replace H := bA H
      obtain ⟨⟨t584, t587⟩, A35, H⟩ := H
      try dsimp only at H
      simp only [Option.some.injEq, Prod.mk.injEq] at H
      obtain ⟨rfl, rfl, rfl⟩ := H
      have hnb36 := NB541_542.out
      have hnc36 := NB542_541.out
      obtain ⟨⟨_, _⟩, _, _⟩ := z2 BK541
      go_wp2_with (first | ((with_reducible refine gate_callee (f := 48) rfl ?_); refine gl_ 25 Tryz.func48 (impl_fileAt.calls kj3 _ _ t543 t546 a1 t551 t552 t553 t554 t557 t560 t563 _ (rcS0 HO_542000) (rnS HO_542000) A30.out) ?_; rintro e w38 ⟨v555, v558, v561, rfl, ho0, ho1, ho2, hb⟩; refine ⟨_, rfl, ?_⟩; have HO556 := Aside0.mk (Kd.R_lower ho0 (below_size oB)); have HO559 := Aside0.mk (Kd.R_lower ho1 (below_size oB)); have HO562 := Aside0.mk (Kd.R_lower ho2 (below_size oB)); replace HO_542000 := tdS3 (olS0 HO_542000 hb) (Kd.R_base ho0) (Kd.R_base ho1) (Kd.R_base ho2); replace BK541 := kb_ BK541 hb; replace BK542 := kb_ BK542 hb; replace HB := Aside0.mk (below_step oB hb); (try clear ho1); (try clear ho2)) | ((with_reducible refine gate_dst (N := 6) rfl ?_); refine bx_ 6 #[.int .i64 0, .int .i64 0, .int .i64 0, .slice none 0 0, .slice none 0 0, .slice none 0 0] 51 ?_; intro gb564 hg w39 hbox hb; have BK564 := Aside0.mk (hbox); have GW564 := gs_ hg; have NB541_564 := nl_ hg BK541; have NB564_541 := nr_ hg BK541; have NB542_564 := nl_ hg BK542; have NB564_542 := nr_ hg BK542; replace HO_542000 := Aside0.mk (Kd.S_below (Kd.S_elderB (nS0 HO_542000) gb564 (Nat.le_of_eq hg.symm)) hb); replace HO556 := kr_ HO556 hb; replace HO559 := kr_ HO559 hb; replace HO562 := kr_ HO562 hb; replace BK541 := kb_ BK541 hb; replace BK542 := kb_ BK542 hb; replace HB := Aside0.mk (below_step oB hb); clear hb hbox hg; have hnb40 := NB564_541.out; have hnc40 := NB541_564.out; have hnb41 := NB564_542.out; have hnc41 := NB542_564.out; obtain ⟨⟨_, _, _, _, _, _⟩, _, _, _, _, _, _⟩ := z6 BK564; obtain ⟨Ao43, co43, eo43⟩ := Kd.R_slice HO556.out; subst eo43; obtain ⟨Ao44, co44, eo44⟩ := Kd.R_slice HO559.out; subst eo44; obtain ⟨Ao45, co45, eo45⟩ := Kd.R_slice HO562.out; subst eo45; obtain ⟨⟨_, _⟩, _, _⟩ := z2 BK541) | ((with_reducible refine gate_callee (f := 57) rfl ?_); refine gl_ 35 Tryz.func57 (impl_spotOf.calls kj3 _ _ t543 t546 a1 t565 t566 t567 t568 t571 t574 t577 t578 _ (rcS2 HO_542000 gb564 (fun _ hk => hk.2)) (rnS HO_542000) A32.out) ?_; rintro e w47 ⟨v569, v572, v575, rfl, ho0, ho1, ho2, hb⟩; refine ⟨_, rfl, ?_⟩; have HO570 := Aside0.mk (Kd.R_lower (Kd.R_new' ho0 (ltR1 HO556 BK564)) (below_size oB)); have HO573 := Aside0.mk (Kd.R_lower (Kd.R_new' ho1 (ltR1 HO559 BK564)) (below_size oB)); have HO576 := Aside0.mk (Kd.R_lower (Kd.R_new' ho2 (ltR1 HO562 BK564)) (below_size oB)); replace HO_542000 := tdS3 (olS2 HO_542000 gb564 (fun _ hk => hk.2) hb) (Kd.R_base ho0) (Kd.R_base ho1) (Kd.R_base ho2); replace HO556 := elR1 HO556 BK564 (Kd.R_base ho0) hb; replace HO559 := elR1 HO559 BK564 (Kd.R_base ho1) hb; replace HO562 := elR1 HO562 BK564 (Kd.R_base ho2) hb; replace BK541 := kb_ BK541 hb; replace BK542 := kb_ BK542 hb; replace BK564 := kp_ #[.int .i64 t551, .int .i64 t552, .int .i64 t553, .slice Ao43 t554.length co43, .slice Ao44 t557.length co44, .slice Ao45 t560.length co45] BK564 hb; replace HB := Aside0.mk (below_step oB hb); (try clear hk); (try clear ho1); (try clear ho2)) | ((with_reducible refine gate_dst (N := 8) rfl ?_); refine bx_ 8 #[.int .i64 0, .int .i64 0, .int .i64 0, .slice none 0 0, .slice none 0 0, .slice none 0 0, .string (⟨#[]⟩ : ByteArray)] 84 ?_; intro gb579 hg w48 hbox hb; have BK579 := Aside0.mk (hbox); have GW579 := gs_ hg; have NB541_579 := nl_ hg BK541; have NB579_541 := nr_ hg BK541; have NB542_579 := nl_ hg BK542; have NB579_542 := nr_ hg BK542; have NB564_579 := nl_ hg BK564; have NB579_564 := nr_ hg BK564; replace HO_542000 := beS0 HO_542000 hb; replace HO556 := kr_ HO556 hb; replace HO559 := kr_ HO559 hb; replace HO562 := kr_ HO562 hb; replace HO570 := kr_ HO570 hb; replace HO573 := kr_ HO573 hb; replace HO576 := kr_ HO576 hb; replace BK541 := kb_ BK541 hb; replace BK542 := kb_ BK542 hb; replace BK564 := kb_ BK564 hb; replace HB := Aside0.mk (below_step oB hb); clear hb hbox hg; have hnb49 := NB579_541.out; have hnc49 := NB541_579.out; have hnb50 := NB579_542.out; have hnc50 := NB542_579.out; have hnb51 := NB579_564.out; have hnc51 := NB564_579.out; obtain ⟨⟨_, _, _, _, _, _, _⟩, _, _, _, _, _, _, _⟩ := z7 BK579; obtain ⟨Ao53, co53, eo53⟩ := Kd.R_slice HO570.out; subst eo53; obtain ⟨Ao54, co54, eo54⟩ := Kd.R_slice HO573.out; subst eo54; obtain ⟨Ao55, co55, eo55⟩ := Kd.R_slice HO576.out; subst eo55; obtain ⟨⟨_, _⟩, _, _⟩ := z2 BK541) | ((with_reducible refine gate_callee (f := 60) rfl ?_); refine gl_ 40 Tryz.func60 (impl_spot_leave.calls kj3 t565 t566 t567 _ _ t568 _ _ t571 _ _ t574 t577 _ _ t543 t546 t580 t583 _ (rcR1 HO570 BK579) (ko HO570) (rcR1 HO573 BK579) (ko HO573) (rcR1 HO576 BK579) (ko HO576) (rcS1 HO_542000 BK579) (rnS HO_542000) A33.out) ?_; rintro e w57 ⟨v581, rfl, ho0, hb⟩; refine ⟨_, rfl, ?_⟩; have HO582 := Aside0.mk (Kd.S_lower (Kd.S_newB (Kd.S_new' (Kd.S_new' (Kd.S_new' (Kd.S_new' (Kd.S_new' (Kd.S_new' (Kd.S_new' ho0 (ltS1 HO_542000 BK579)) (ltR1 HO556 BK579)) (ltR1 HO559 BK579)) (ltR1 HO562 BK579)) (ltR1 HO570 BK579)) (ltR1 HO573 BK579)) (ltR1 HO576 BK579)) (g := gb564) (o := .cells #[.int .i64 t551, .int .i64 t552, .int .i64 t553, .slice Ao43 t554.length co43, .slice Ao44 t557.length co44, .slice Ao45 t560.length co45] 51 (0, 0)) (oF BK564)) (below_size oB)); replace HO_542000 := elS1 HO_542000 BK579 (Kd.S_base ho0) hb; replace HO556 := beR1 HO556 BK579 hb; replace HO559 := beR1 HO559 BK579 hb; replace HO562 := beR1 HO562 BK579 hb; replace HO570 := beR1 HO570 BK579 hb; replace HO573 := beR1 HO573 BK579 hb; replace HO576 := beR1 HO576 BK579 hb; replace BK541 := kb_ BK541 hb; replace BK542 := kb_ BK542 hb; replace BK564 := kb_ BK564 hb; replace BK579 := kp_ #[.int .i64 t565, .int .i64 t566, .int .i64 t567, .slice Ao53 t568.length co53, .slice Ao54 t571.length co54, .slice Ao55 t574.length co55, .string t577] BK579 hb; replace HB := Aside0.mk (below_step oB hb); (try clear hk); obtain ⟨Ao58, co58, eo58⟩ := Kd.S_slice HO582.out; subst eo58; obtain ⟨⟨_, _⟩, _, _⟩ := z2 BK541; obtain ⟨⟨_, _, _, _, _, _⟩, _, _, _, _, _, _⟩ := z6 BK564) | ((with_reducible refine gate_callee (f := 61) rfl ?_); refine gl_ 51 Tryz.func61 (impl_DropInode.calls kj3 _ _ t580 t583 t551 t584 t587 _ (rcS4 HO582 BK541 gb564 (fun _ hk => hk.1.2)) (rnS HO582) A35.out) ?_; rintro e w61 ⟨v585, rfl, ho0, hb⟩; refine ⟨_, rfl, ?_⟩; have HO586 := Aside0.mk (Kd.S_lower (Kd.S_newB (Kd.S_new' (Kd.S_new' (Kd.S_new' (Kd.S_new' (Kd.S_new' (Kd.S_new' (Kd.S_new' (Kd.S_new' ho0 (ltS4 HO_542000 BK541 gb564 (fun _ hk => hk.1.1.1.1.1.2))) (ltR3 HO556 BK541 BK564)) (ltR3 HO559 BK541 BK564)) (ltR3 HO562 BK541 BK564)) (ltR3 HO570 BK541 BK564)) (ltR3 HO573 BK541 BK564)) (ltR3 HO576 BK541 BK564)) (ltS4 HO582 BK541 gb564 (fun _ hk => hk.1.2))) (g := gb564) (o := .cells #[.int .i64 t551, .int .i64 t552, .int .i64 (wrap64 (t553 - 1)), .slice Ao43 t554.length co43, .slice Ao44 t557.length co44, .slice Ao45 t560.length co45] 51 (0, 0)) (oP BK564)) (below_size oB)); replace HO_542000 := elS4 HO_542000 BK541 gb564 (fun _ hk => hk.1.1.1.1.1.2) (Kd.S_base ho0) hb; replace HO556 := beR3 HO556 BK541 BK564 hb; replace HO559 := beR3 HO559 BK541 BK564 hb; replace HO562 := beR3 HO562 BK541 BK564 hb; replace HO570 := beR3 HO570 BK541 BK564 hb; replace HO573 := beR3 HO573 BK541 BK564 hb; replace HO576 := beR3 HO576 BK541 BK564 hb; replace HO582 := elS4 HO582 BK541 gb564 (fun _ hk => hk.1.2) (Kd.S_base ho0) hb; replace BK541 := kp_ #[.slice Ao58 t580.length co58, .int .i64 t583] BK541 hb; replace BK542 := kb_ BK542 hb; replace BK564 := kp_ #[.int .i64 t551, .int .i64 t552, .int .i64 (wrap64 (t553 - 1)), .slice Ao43 t554.length co43, .slice Ao44 t557.length co44, .slice Ao45 t560.length co45] BK564 hb; replace BK579 := kb_ BK579 hb; replace HB := Aside0.mk (below_step oB hb); (try clear hk); obtain ⟨Ao62, co62, eo62⟩ := Kd.S_slice HO586.out; subst eo62; obtain ⟨⟨_, _⟩, _, _⟩ := z2 BK542))
      refine bodyPost_ret (results_ct rfl _ _ gb542 26 #[.slice Ao62 t584.length co62, .int .i64 t587] (0, 0) _ rfl (oP BK542) Tryz.underlying26 rfl (by kernel_rfl)) rfl ?_
      exact ⟨_, oE, by (with_reducible repeat (first | apply Kd.S_alloc | apply Kd.S_drewN | apply Kd.S_drew)); exact Kd.S_mono (Kd.S_far (p := ⟨gb542, 1, none⟩) (Kd.S_far (p := ⟨gb542, 0, none⟩) (Kd.S_types HO586.out BK542.out (by decide)) (fun _ hk => hk.2) (.slice Ao62 t584.length co62)) (fun _ hk => hk.2) (.int .i64 t587)) (fun _ hk => trivial), oB⟩
     ·rw [if_neg c34] at H
      have c34b0 : ((wrap64 (t553 - 1)) == 0) = false := beq_eq_false_iff_ne.mpr c34
      have c34b1 : ((wrap64 (t553 - 1)) != 0) = true := bne_iff_ne.mpr c34
      replace H := bA H
      obtain ⟨⟨t588, t591⟩, A64, H⟩ := H
      try dsimp only at H
      simp only [Option.some.injEq, Prod.mk.injEq] at H
      obtain ⟨rfl, rfl, rfl⟩ := H
      have hnb65 := NB541_542.out
      have hnc65 := NB542_541.out
      obtain ⟨⟨_, _⟩, _, _⟩ := z2 BK541
      go_wp2_with (first | ((with_reducible refine gate_callee (f := 48) rfl ?_); refine gl_ 25 Tryz.func48 (impl_fileAt.calls kj3 _ _ t543 t546 a1 t551 t552 t553 t554 t557 t560 t563 _ (rcS0 HO_542000) (rnS HO_542000) A30.out) ?_; rintro e w67 ⟨v555, v558, v561, rfl, ho0, ho1, ho2, hb⟩; refine ⟨_, rfl, ?_⟩; have HO556 := Aside0.mk (Kd.R_lower ho0 (below_size oB)); have HO559 := Aside0.mk (Kd.R_lower ho1 (below_size oB)); have HO562 := Aside0.mk (Kd.R_lower ho2 (below_size oB)); replace HO_542000 := tdS3 (olS0 HO_542000 hb) (Kd.R_base ho0) (Kd.R_base ho1) (Kd.R_base ho2); replace BK541 := kb_ BK541 hb; replace BK542 := kb_ BK542 hb; replace HB := Aside0.mk (below_step oB hb); (try clear ho1); (try clear ho2)) | ((with_reducible refine gate_dst (N := 6) rfl ?_); refine bx_ 6 #[.int .i64 0, .int .i64 0, .int .i64 0, .slice none 0 0, .slice none 0 0, .slice none 0 0] 51 ?_; intro gb564 hg w68 hbox hb; have BK564 := Aside0.mk (hbox); have GW564 := gs_ hg; have NB541_564 := nl_ hg BK541; have NB564_541 := nr_ hg BK541; have NB542_564 := nl_ hg BK542; have NB564_542 := nr_ hg BK542; replace HO_542000 := Aside0.mk (Kd.S_below (Kd.S_elderB (nS0 HO_542000) gb564 (Nat.le_of_eq hg.symm)) hb); replace HO556 := kr_ HO556 hb; replace HO559 := kr_ HO559 hb; replace HO562 := kr_ HO562 hb; replace BK541 := kb_ BK541 hb; replace BK542 := kb_ BK542 hb; replace HB := Aside0.mk (below_step oB hb); clear hb hbox hg; have hnb69 := NB564_541.out; have hnc69 := NB541_564.out; have hnb70 := NB564_542.out; have hnc70 := NB542_564.out; obtain ⟨⟨_, _, _, _, _, _⟩, _, _, _, _, _, _⟩ := z6 BK564; obtain ⟨Ao72, co72, eo72⟩ := Kd.R_slice HO556.out; subst eo72; obtain ⟨Ao73, co73, eo73⟩ := Kd.R_slice HO559.out; subst eo73; obtain ⟨Ao74, co74, eo74⟩ := Kd.R_slice HO562.out; subst eo74; obtain ⟨⟨_, _⟩, _, _⟩ := z2 BK541) | ((with_reducible refine gate_callee (f := 57) rfl ?_); refine gl_ 35 Tryz.func57 (impl_spotOf.calls kj3 _ _ t543 t546 a1 t565 t566 t567 t568 t571 t574 t577 t578 _ (rcS2 HO_542000 gb564 (fun _ hk => hk.2)) (rnS HO_542000) A32.out) ?_; rintro e w76 ⟨v569, v572, v575, rfl, ho0, ho1, ho2, hb⟩; refine ⟨_, rfl, ?_⟩; have HO570 := Aside0.mk (Kd.R_lower (Kd.R_new' ho0 (ltR1 HO556 BK564)) (below_size oB)); have HO573 := Aside0.mk (Kd.R_lower (Kd.R_new' ho1 (ltR1 HO559 BK564)) (below_size oB)); have HO576 := Aside0.mk (Kd.R_lower (Kd.R_new' ho2 (ltR1 HO562 BK564)) (below_size oB)); replace HO_542000 := tdS3 (olS2 HO_542000 gb564 (fun _ hk => hk.2) hb) (Kd.R_base ho0) (Kd.R_base ho1) (Kd.R_base ho2); replace HO556 := elR1 HO556 BK564 (Kd.R_base ho0) hb; replace HO559 := elR1 HO559 BK564 (Kd.R_base ho1) hb; replace HO562 := elR1 HO562 BK564 (Kd.R_base ho2) hb; replace BK541 := kb_ BK541 hb; replace BK542 := kb_ BK542 hb; replace BK564 := kp_ #[.int .i64 t551, .int .i64 t552, .int .i64 t553, .slice Ao72 t554.length co72, .slice Ao73 t557.length co73, .slice Ao74 t560.length co74] BK564 hb; replace HB := Aside0.mk (below_step oB hb); (try clear hk); (try clear ho1); (try clear ho2)) | ((with_reducible refine gate_dst (N := 8) rfl ?_); refine bx_ 8 #[.int .i64 0, .int .i64 0, .int .i64 0, .slice none 0 0, .slice none 0 0, .slice none 0 0, .string (⟨#[]⟩ : ByteArray)] 84 ?_; intro gb579 hg w77 hbox hb; have BK579 := Aside0.mk (hbox); have GW579 := gs_ hg; have NB541_579 := nl_ hg BK541; have NB579_541 := nr_ hg BK541; have NB542_579 := nl_ hg BK542; have NB579_542 := nr_ hg BK542; have NB564_579 := nl_ hg BK564; have NB579_564 := nr_ hg BK564; replace HO_542000 := beS0 HO_542000 hb; replace HO556 := kr_ HO556 hb; replace HO559 := kr_ HO559 hb; replace HO562 := kr_ HO562 hb; replace HO570 := kr_ HO570 hb; replace HO573 := kr_ HO573 hb; replace HO576 := kr_ HO576 hb; replace BK541 := kb_ BK541 hb; replace BK542 := kb_ BK542 hb; replace BK564 := kb_ BK564 hb; replace HB := Aside0.mk (below_step oB hb); clear hb hbox hg; have hnb78 := NB579_541.out; have hnc78 := NB541_579.out; have hnb79 := NB579_542.out; have hnc79 := NB542_579.out; have hnb80 := NB579_564.out; have hnc80 := NB564_579.out; obtain ⟨⟨_, _, _, _, _, _, _⟩, _, _, _, _, _, _, _⟩ := z7 BK579; obtain ⟨Ao82, co82, eo82⟩ := Kd.R_slice HO570.out; subst eo82; obtain ⟨Ao83, co83, eo83⟩ := Kd.R_slice HO573.out; subst eo83; obtain ⟨Ao84, co84, eo84⟩ := Kd.R_slice HO576.out; subst eo84; obtain ⟨⟨_, _⟩, _, _⟩ := z2 BK541) | ((with_reducible refine gate_callee (f := 60) rfl ?_); refine gl_ 40 Tryz.func60 (impl_spot_leave.calls kj3 t565 t566 t567 _ _ t568 _ _ t571 _ _ t574 t577 _ _ t543 t546 t580 t583 _ (rcR1 HO570 BK579) (ko HO570) (rcR1 HO573 BK579) (ko HO573) (rcR1 HO576 BK579) (ko HO576) (rcS1 HO_542000 BK579) (rnS HO_542000) A33.out) ?_; rintro e w86 ⟨v581, rfl, ho0, hb⟩; refine ⟨_, rfl, ?_⟩; have HO582 := Aside0.mk (Kd.S_lower (Kd.S_newB (Kd.S_new' (Kd.S_new' (Kd.S_new' (Kd.S_new' (Kd.S_new' (Kd.S_new' (Kd.S_new' ho0 (ltS1 HO_542000 BK579)) (ltR1 HO556 BK579)) (ltR1 HO559 BK579)) (ltR1 HO562 BK579)) (ltR1 HO570 BK579)) (ltR1 HO573 BK579)) (ltR1 HO576 BK579)) (g := gb564) (o := .cells #[.int .i64 t551, .int .i64 t552, .int .i64 t553, .slice Ao72 t554.length co72, .slice Ao73 t557.length co73, .slice Ao74 t560.length co74] 51 (0, 0)) (oF BK564)) (below_size oB)); replace HO_542000 := elS1 HO_542000 BK579 (Kd.S_base ho0) hb; replace HO556 := beR1 HO556 BK579 hb; replace HO559 := beR1 HO559 BK579 hb; replace HO562 := beR1 HO562 BK579 hb; replace HO570 := beR1 HO570 BK579 hb; replace HO573 := beR1 HO573 BK579 hb; replace HO576 := beR1 HO576 BK579 hb; replace BK541 := kb_ BK541 hb; replace BK542 := kb_ BK542 hb; replace BK564 := kb_ BK564 hb; replace BK579 := kp_ #[.int .i64 t565, .int .i64 t566, .int .i64 t567, .slice Ao82 t568.length co82, .slice Ao83 t571.length co83, .slice Ao84 t574.length co84, .string t577] BK579 hb; replace HB := Aside0.mk (below_step oB hb); (try clear hk); obtain ⟨Ao87, co87, eo87⟩ := Kd.S_slice HO582.out; subst eo87; obtain ⟨⟨_, _⟩, _, _⟩ := z2 BK541; obtain ⟨⟨_, _, _, _, _, _⟩, _, _, _, _, _, _⟩ := z6 BK564) | ((with_reducible refine gate_callee (f := 50) rfl ?_); refine gl_ 54 Tryz.func50 (impl_SetInode.calls kj3 _ _ t580 t583 t551 t552 (wrap64 (t553 - 1)) _ _ t554 _ _ t557 _ _ t560 t588 t591 _ (rcS4 HO582 BK541 gb564 (fun _ hk => hk.1.2)) (rnS HO582) (rcR3 HO556 BK541 BK564) (ko HO556) (rcR3 HO559 BK541 BK564) (ko HO559) (rcR3 HO562 BK541 BK564) (ko HO562) A64.out) ?_; rintro e w90 ⟨v589, rfl, ho0, hb⟩; refine ⟨_, rfl, ?_⟩; have HO590 := Aside0.mk (Kd.S_lower (Kd.S_newB (Kd.S_new' (Kd.S_new' (Kd.S_new' (Kd.S_new' (Kd.S_new' (Kd.S_new' (Kd.S_new' (Kd.S_new' ho0 (ltS4 HO_542000 BK541 gb564 (fun _ hk => hk.1.1.1.1.1.2))) (ltR3 HO556 BK541 BK564)) (ltR3 HO559 BK541 BK564)) (ltR3 HO562 BK541 BK564)) (ltR3 HO570 BK541 BK564)) (ltR3 HO573 BK541 BK564)) (ltR3 HO576 BK541 BK564)) (ltS4 HO582 BK541 gb564 (fun _ hk => hk.1.2))) (g := gb564) (o := .cells #[.int .i64 t551, .int .i64 t552, .int .i64 (wrap64 (t553 - 1)), .slice Ao72 t554.length co72, .slice Ao73 t557.length co73, .slice Ao74 t560.length co74] 51 (0, 0)) (oP BK564)) (below_size oB)); replace HO_542000 := elS4 HO_542000 BK541 gb564 (fun _ hk => hk.1.1.1.1.1.2) (Kd.S_base ho0) hb; replace HO556 := beR3 HO556 BK541 BK564 hb; replace HO559 := beR3 HO559 BK541 BK564 hb; replace HO562 := beR3 HO562 BK541 BK564 hb; replace HO570 := beR3 HO570 BK541 BK564 hb; replace HO573 := beR3 HO573 BK541 BK564 hb; replace HO576 := beR3 HO576 BK541 BK564 hb; replace HO582 := elS4 HO582 BK541 gb564 (fun _ hk => hk.1.2) (Kd.S_base ho0) hb; replace BK541 := kp_ #[.slice Ao87 t580.length co87, .int .i64 t583] BK541 hb; replace BK542 := kb_ BK542 hb; replace BK564 := kp_ #[.int .i64 t551, .int .i64 t552, .int .i64 (wrap64 (t553 - 1)), .slice Ao72 t554.length co72, .slice Ao73 t557.length co73, .slice Ao74 t560.length co74] BK564 hb; replace BK579 := kb_ BK579 hb; replace HB := Aside0.mk (below_step oB hb); (try clear hk); obtain ⟨Ao91, co91, eo91⟩ := Kd.S_slice HO590.out; subst eo91; obtain ⟨⟨_, _⟩, _, _⟩ := z2 BK542))
      refine bodyPost_ret (results_ct rfl _ _ gb542 26 #[.slice Ao91 t588.length co91, .int .i64 t591] (0, 0) _ rfl (oP BK542) Tryz.underlying26 rfl (by kernel_rfl)) rfl ?_
      exact ⟨_, oE, by (with_reducible repeat (first | apply Kd.S_alloc | apply Kd.S_drewN | apply Kd.S_drew)); exact Kd.S_mono (Kd.S_far (p := ⟨gb542, 1, none⟩) (Kd.S_far (p := ⟨gb542, 0, none⟩) (Kd.S_types HO590.out BK542.out (by decide)) (fun _ hk => hk.2) (.slice Ao91 t588.length co91)) (fun _ hk => hk.2) (.int .i64 t591)) (fun _ hk => trivial), oB⟩
    ·rw [if_neg c31] at H
     have c31b0 : (t563 == 0) = false := beq_eq_false_iff_ne.mpr c31
     have c31b1 : (t563 != 0) = true := bne_iff_ne.mpr c31
     simp only [Option.some.injEq, Prod.mk.injEq] at H
     obtain ⟨rfl, rfl, rfl⟩ := H
     have hnb93 := NB541_542.out
     have hnc93 := NB542_541.out
     obtain ⟨⟨_, _⟩, _, _⟩ := z2 BK541
     go_wp2_with (first | ((with_reducible refine gate_callee (f := 48) rfl ?_); refine gl_ 25 Tryz.func48 (impl_fileAt.calls kj3 _ _ t543 t546 a1 t551 t552 t553 t554 t557 t560 t563 _ (rcS0 HO_542000) (rnS HO_542000) A30.out) ?_; rintro e w95 ⟨v555, v558, v561, rfl, ho0, ho1, ho2, hb⟩; refine ⟨_, rfl, ?_⟩; have HO556 := Aside0.mk (Kd.R_lower ho0 (below_size oB)); have HO559 := Aside0.mk (Kd.R_lower ho1 (below_size oB)); have HO562 := Aside0.mk (Kd.R_lower ho2 (below_size oB)); replace HO_542000 := tdS3 (olS0 HO_542000 hb) (Kd.R_base ho0) (Kd.R_base ho1) (Kd.R_base ho2); replace BK541 := kb_ BK541 hb; replace BK542 := kb_ BK542 hb; replace HB := Aside0.mk (below_step oB hb); (try clear ho1); (try clear ho2)) | ((with_reducible refine gate_dst (N := 6) rfl ?_); refine bx_ 6 #[.int .i64 0, .int .i64 0, .int .i64 0, .slice none 0 0, .slice none 0 0, .slice none 0 0] 51 ?_; intro gb564 hg w96 hbox hb; have BK564 := Aside0.mk (hbox); have GW564 := gs_ hg; have NB541_564 := nl_ hg BK541; have NB564_541 := nr_ hg BK541; have NB542_564 := nl_ hg BK542; have NB564_542 := nr_ hg BK542; replace HO_542000 := Aside0.mk (Kd.S_below (Kd.S_elderB (nS0 HO_542000) gb564 (Nat.le_of_eq hg.symm)) hb); replace HO556 := kr_ HO556 hb; replace HO559 := kr_ HO559 hb; replace HO562 := kr_ HO562 hb; replace BK541 := kb_ BK541 hb; replace BK542 := kb_ BK542 hb; replace HB := Aside0.mk (below_step oB hb); clear hb hbox hg; have hnb97 := NB564_541.out; have hnc97 := NB541_564.out; have hnb98 := NB564_542.out; have hnc98 := NB542_564.out; obtain ⟨⟨_, _, _, _, _, _⟩, _, _, _, _, _, _⟩ := z6 BK564; obtain ⟨Ao100, co100, eo100⟩ := Kd.R_slice HO556.out; subst eo100; obtain ⟨Ao101, co101, eo101⟩ := Kd.R_slice HO559.out; subst eo101; obtain ⟨Ao102, co102, eo102⟩ := Kd.R_slice HO562.out; subst eo102; obtain ⟨⟨_, _⟩, _, _⟩ := z2 BK541; obtain ⟨⟨_, _⟩, _, _⟩ := z2 BK542))
     refine bodyPost_ret (results_ct rfl _ _ gb542 26 #[.slice Ao10 t543.length co10, .int .i64 t546] (0, 0) _ rfl (oP BK542) Tryz.underlying26 rfl (by kernel_rfl)) rfl ?_
     exact ⟨_, oE, by (with_reducible repeat (first | apply Kd.S_alloc | apply Kd.S_drewN | apply Kd.S_drew)); exact Kd.S_mono (Kd.S_far (p := ⟨gb542, 1, none⟩) (Kd.S_far (p := ⟨gb542, 0, none⟩) (Kd.S_far (p := ⟨gb564, 5, none⟩) (Kd.S_far (p := ⟨gb564, 4, none⟩) (Kd.S_far (p := ⟨gb564, 3, none⟩) (Kd.S_far (p := ⟨gb564, 2, none⟩) (Kd.S_far (p := ⟨gb564, 1, none⟩) (Kd.S_far (p := ⟨gb564, 0, none⟩) (Kd.S_types (Kd.S_mono HO_542000.out (fun k_ hk => (⟨hk, hk.2⟩ : _ ∧ k_ ≠ gb564))) BK542.out (by decide)) (fun _ hk => hk.1.2) (.int .i64 t551)) (fun _ hk => hk.1.2) (.int .i64 t552)) (fun _ hk => hk.1.2) (.int .i64 t553)) (fun _ hk => hk.1.2) (.slice Ao100 t554.length co100)) (fun _ hk => hk.1.2) (.slice Ao101 t557.length co101)) (fun _ hk => hk.1.2) (.slice Ao102 t560.length co102)) (fun _ hk => hk.2) (.slice Ao10 t543.length co10)) (fun _ hk => hk.2) (.int .i64 t546)) (fun _ hk => trivial), oB⟩

end Go.Proofs.YtkcfmbggdkkfeaaGreatDoor.P
