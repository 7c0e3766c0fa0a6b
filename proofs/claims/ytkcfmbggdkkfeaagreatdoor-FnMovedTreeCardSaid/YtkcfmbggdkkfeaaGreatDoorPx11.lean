-- By this session's own program (wip/myprint.py) out of the translation; Lean checks it.
import Derived.Test.YtkcfmbggdkkfeaaGreatDoorPx0
import Derived.Test.YtkcfmbggdkkfeaaGreatDoorPx2
import Derived.Test.YtkcfmbggdkkfeaaGreatDoorPx3
import Derived.Test.YtkcfmbggdkkfeaaGreatDoorPx6
import Derived.Test.YtkcfmbggdkkfeaaGreatDoorPx8
import Derived.Test.YtkcfmbggdkkfeaaGreatDoorPx9
namespace Go.Proofs.YtkcfmbggdkkfeaaGreatDoor.P
open Go.RowKit Go.Proofs.YtkcfmbggdkkfeaaGreatDoorW.PrintWords Go.Proofs.YtkcfmbggdkkfeaaGreatDoorW.PrintLast Go.Proofs.YtkcfmbggdkkfeaaGreatDoorW.PrintMore
attribute [local go_sem] max2_int min2_int max_two min_two max_three min_three max_four min_four   -- for this text's walks alone
set_option linter.unusedVariables false
set_option linter.unusedSimpArgs false

/-! ### impl_spot_leave: function 60 -/
def eqS (a b : ByteArray) : Bool := a.toList == b.toList
def eqN (s : ByteArray) : List S65 → Nat → Int
 | [], _ => -1
 | x :: l, i => if (eqS x.f0 s) = true then (i : Int) else eqN s l (i + 1)
theorem entEq1.calls (s a : ByteArray) (b : Int) (B : Nat) (W : World) (hB : B < W.heap.size) (hc : W.cell? ⟨B, 6, none⟩ = some (.string s)) :
  Calls Tryz.prog 84 #[.agg #[.string a, .int .i64 b], .pointer (some ⟨B, 0, none⟩)] W fun e w' => e = .returned (.bool (eqS a s)) ∧ Below W.heap.size W w' := by
 have hne : B ≠ W.heap.size := by omega
 go_enter Tryz.func84, Tryz.ntmps84
 go_wp2
 all_goals (go_ret; exact ⟨by simp_all [eqS], (Below.refl _ W).alloc (Nat.le_refl _) _⟩)
theorem qrd_at (l : List S65) (k : Nat) (h : k < l.length) : rd_T65 l (k : Int) = l[k] := by
 simp [rd_T65, List.getD_eq_getElem?_getD, List.getElem?_eq_getElem h]
theorem eqN_hit (s : ByteArray) (l : List S65) (k j : Nat) (h : k < l.length) (hit : (eqS (rd_T65 l (k : Int)).f0 s) = true) : eqN s (l.drop k) j = (j : Int) := by
 rw [List.drop_eq_getElem_cons h, eqN, if_pos (by rw [← qrd_at l k h]; exact hit)]
theorem eqN_miss (s : ByteArray) (l : List S65) (k j : Nat) (h : k < l.length) (hit : (eqS (rd_T65 l (k : Int)).f0 s) = false) : eqN s (l.drop k) j = eqN s (l.drop (k + 1)) (j + 1) := by
 rw [List.drop_eq_getElem_cons h, eqN, if_neg (by rw [← qrd_at l k h, hit]; decide)]
set_option maxHeartbeats 400000 in
set_option maxRecDepth 100000 in
theorem entEq2.calls (s : ByteArray) (A0 : Option Addr) (c0 : Nat) (l : List S65) (B : Nat) (w : World) (hr : k65.C w A0 l.length l) (hB : B < w.heap.size) (hc : w.cell? ⟨B, 6, none⟩ = some (.string s)) (hl : l.length ≤ 9223372036854775807) :
  Calls Tryz.prog 79 #[.slice A0 l.length c0, .func (.func 84) #[] #[.pointer (some ⟨B, 0, none⟩)]] w fun e w' => e = .returned (.int .i64 (eqN s l 0)) ∧ Below w.heap.size w w' := by
 go_enter Tryz.func79, Tryz.ntmps79
 go_wp2
 go_loopg [5, 8] l.length (fun gg _ s8 wr => ∃ kk : Nat, kk ≤ l.length ∧ l.length - kk ≤ gg ∧ s8 = .int .i64 kk ∧ Aside0 (Below w.heap.size w wr) ∧ Aside0 (eqN s l 0 = eqN s (l.drop kk) kk))
 case atStart => exact ⟨0, Nat.zero_le _, by omega, rfl, ⟨Below.refl _ w⟩, ⟨rfl⟩⟩
 case round =>
  obtain ⟨kk, hkk, hg, rfl, BW, A⟩ := hrel
  by_cases hlt : kk < l.length
  ·have hltz : (kk : Int) < (l.length : Int) := by omega
   obtain ⟨ad, e0, h0, h1⟩ := at_T65 (Kd.C_below hr BW.out) (kk : Int) (by omega) hltz
   cases e0
   rw [Int.toNat_natCast] at h0 h1
   have hBw : B < wr.heap.size := Nat.lt_of_lt_of_le hB BW.out.size
   have hcw : wr.cell? ⟨B, 6, none⟩ = some (.string s) := (BW.out.cell (p := ⟨B, 6, none⟩) hB).trans hc
   cases hq : (eqS (rd_T65 l (kk : Int)).f0 s) with
   | true =>
    go_wp2_with (go_at_call 84; refine (entEq1.calls s _ _ B wr hBw hcw).mono ?_; rintro e w' ⟨rfl, hb'⟩; rw [hq])
    go_ret
    exact ⟨by rw [A.out, eqN_hit s l kk kk hlt hq]; rfl, below_then BW.out BW.out.size hb'⟩
   | false =>
    go_wp2_with (go_at_call 84; refine (entEq1.calls s _ _ B wr hBw hcw).mono ?_; rintro e w' ⟨rfl, hb'⟩; rw [hq])
    go_roundg (l.length - (kk + 1))
    case measure => omega
    case rel => exact ⟨kk + 1, by omega, by omega, by go_num, ⟨below_then BW.out BW.out.size hb'⟩, ⟨by rw [A.out, eqN_miss s l kk kk hlt hq]⟩⟩
  ·have hltz : ¬ (kk : Int) < (l.length : Int) := by omega
   obtain rfl : kk = l.length := by omega
   go_wp2
   go_ret
   exact ⟨by rw [A.out, List.drop_length]; rfl, BW.out⟩
def delN (s : ByteArray) (l : List S65) : List S65 := l.filter fun x => !(eqS x.f0 s)
theorem eqN_spec (s : ByteArray) (l : List S65) : ∀ j : Nat, (eqN s l j = -1 ∧ ∀ x ∈ l, (eqS x.f0 s) = false) ∨ ∃ i : Nat, eqN s l j = ((j + i : Nat) : Int) ∧ ∃ h : i < l.length, (eqS l[i].f0 s) = true ∧ ∀ (q : Nat) (hq : q < i), (eqS l[q].f0 s) = false := by
 induction l with
 | nil => intro j; exact .inl ⟨rfl, by simp⟩
 | cons x l ih =>
  intro j
  rw [eqN]
  cases c : (eqS x.f0 s) with
  | true => exact .inr ⟨0, by simp, by simp, c, fun q hq => by omega⟩
  | false =>
   rw [if_neg (by decide)]
   rcases ih (j + 1) with ⟨h1, h2⟩ | ⟨i, h1, h2, h3, h4⟩
   ·left
    refine ⟨h1, fun y hy => ?_⟩
    rcases List.mem_cons.1 hy with rfl | hy
    ·exact c
    ·exact h2 y hy
   ·right
    refine ⟨i + 1, by rw [h1]; congr 1; omega, by simpa using h2, by simpa using h3, fun q hq => ?_⟩
    cases q with
    | zero => exact c
    | succ q => exact h4 q (by omega)
theorem delN_all (s : ByteArray) (l : List S65) (h : ∀ x ∈ l, (eqS x.f0 s) = false) : delN s l = l := List.filter_eq_self.2 (fun x hx => by rw [h x hx]; rfl)
theorem delN_take (s : ByteArray) (l : List S65) (i : Nat) (h : i < l.length) (h1 : (eqS l[i].f0 s) = true) (h2 : ∀ (q : Nat) (hq : q < i), (eqS l[q].f0 s) = false) : delN s (l.take (i + 1)) = l.take i := by
 unfold delN
 rw [List.take_succ_eq_append_getElem h, List.filter_append, List.filter_cons_of_neg (by rw [h1]; decide), List.filter_nil, List.append_nil]
 exact List.filter_eq_self.2 (fun x hx => by
  obtain ⟨q, hq, rfl⟩ := List.getElem_of_mem hx
  rw [List.length_take] at hq
  rw [List.getElem_take, h2 q (by omega)]; rfl)
theorem delN_step (s : ByteArray) (l : List S65) (j : Nat) (h : j < l.length) : delN s (l.take (j + 1)) = delN s (l.take j) ++ (if (eqS l[j].f0 s) = true then [] else [l[j]]) := by
 unfold delN
 rw [List.take_succ_eq_append_getElem h, List.filter_append]
 congr 1
 cases c : (eqS l[j].f0 s) with
 | true => rw [if_pos rfl, List.filter_cons_of_neg (by rw [c]; decide), List.filter_nil]
 | false => rw [if_neg (by decide), List.filter_cons_of_pos (by rw [c]; rfl), List.filter_nil]
theorem zEnt_run (w : World) : (zeroValue 65).run Tryz.prog w = .ok (.agg #[.string ⟨#[]⟩, .int .i64 0]) w := by kernel_rfl
def encQ (x : S65) : List Value := [.string x.f0, .int .i64 x.f1]
set_option maxHeartbeats 2000000 in
set_option maxRecDepth 100000 in
theorem delEnt.calls (s : ByteArray) (A0 : Option Addr) (c0 : Nat) (l : List S65) (B : Nat) (ok : Nat → Prop) (w0 w : World) (hB : Below w0.heap.size w0 w) (hR : Kd.R k65 65 w w0.heap.size ok (.slice A0 l.length c0) l) (hBl : B < w.heap.size) (hc : w.cell? ⟨B, 6, none⟩ = some (.string s)) (hne : ¬ ok B) (hl : l.length ≤ 9223372036854775807) :
  Calls Tryz.prog 83 #[.slice A0 l.length c0, .func (.func 84) #[] #[.pointer (some ⟨B, 0, none⟩)]] w fun e w' => e = .returned (.slice A0 (delN s l).length c0) ∧ Kd.R k65 65 w' w0.heap.size ok (.slice A0 (delN s l).length c0) (delN s l) ∧ Below w0.heap.size w0 w' ∧ Kept w w' ok := by
 have hr := (Kd.R_reads' hR).2.2
 have HR0 := Aside0.mk hR
 have HB := Aside0.mk hB
 have HW := Aside0.mk hB.size
 have HN := Aside0.mk hne
 have hcall := entEq2.calls s A0 c0 l B w hr hBl hc hl
 clear hR hB hne hr
 rcases eqN_spec s l 0 with ⟨hp, hall⟩ | ⟨i0, hp, hi0, hhit, hbef⟩
 ·rw [hp] at hcall
  have HC := Aside0.mk hcall
  have HD := Aside0.mk (delN_all s l hall)
  clear hcall hc hall hp
  go_enter Tryz.func83, Tryz.ntmps83
  go_wp2_with (go_at_call 79; refine HC.out.mono ?_; rintro e w1 ⟨rfl, hb⟩)
  go_ret
  rw [HD.out]
  exact ⟨rfl, Kd.R_below HR0.out hb, below_then HB.out HW.out hb, Kept.of_below hb _⟩
 ·rw [Nat.zero_add] at hp
  rw [hp] at hcall
  have HC := Aside0.mk hcall
  have hids := delN_take s l i0 hi0 hhit hbef
  obtain ⟨g, cap, ev, gb, _, _⟩ := Kd.R_form HR0.out (by omega)
  injection ev with ea en ec
  subst ea
  clear en
  subst ec
  have hPg : ok g := HR0.out.1 g rfl
  have HP := Aside0.mk hPg
  have hBg : B ≠ g := fun he => HN.out (he ▸ hPg)
  have HR := Aside0.mk (Kd.R_mono (ok' := fun k => k = g) ((⟨fun k hk => by simpa [Value.ownBlock] using hk.symm, (rawR encQ (fun _ _ _ _ _ h => k65_openM h) HR0.out).2⟩ : (Kd.raw k65.sz).R 65 w w0.heap.size (fun k => k = g) (.slice (some ⟨g, 0, none⟩) l.length c0) (l.map encQ))) (fun _ h => h))
  have hil : (delN s (l.take (i0 + 1))).length = i0 := by rw [hids, List.length_take]; omega
  have HI := Aside0.mk (⟨by omega, by rw [hil, hids, List.map_take], List.length_map ..⟩ : (delN s (l.take (i0 + 1))).length < i0 + 1 ∧ (l.map encQ).take (delN s (l.take (i0 + 1))).length = (delN s (l.take (i0 + 1))).map encQ ∧ (l.map encQ).length = l.length)
  have HG := Aside0.mk gb
  have HCC := Aside0.mk hc
  clear hcall hc hhit hbef hp hids hPg gb
  go_enter Tryz.func83, Tryz.ntmps83
  go_wp2_with (go_at_call 79; refine HC.out.mono ?_; rintro e w1 ⟨rfl, hb⟩)
  replace HR := Aside0.mk (Kd.R_below HR.out hb)
  have HK := Aside0.mk (Kept.of_below hb (fun k => k = g))
  replace HB := Aside0.mk (below_then HB.out HW.out hb)
  clear hb HC HR0
  go_loopg [5, 6] l.length (fun gg s5 s6 wr => ∃ (jj : Nat) (rws : List (List Value)), jj ≤ l.length ∧ l.length - jj ≤ gg ∧ s5 = .int .i64 (delN s (l.take jj)).length ∧ s6 = .int .i64 jj ∧ Aside0 ((delN s (l.take jj)).length < jj ∧ rws.take (delN s (l.take jj)).length = (delN s (l.take jj)).map encQ ∧ rws.length = l.length) ∧ Aside0 (rws.drop jj = (l.map encQ).drop jj) ∧ Aside0 ((Kd.raw k65.sz).R 65 wr w0.heap.size (fun k => k = g) (.slice (some ⟨g, 0, none⟩) l.length c0) rws) ∧ Aside0 (Below w0.heap.size w0 wr) ∧ Aside0 (Kept w wr (fun k => k = g)))
  case atStart => exact ⟨i0 + 1, l.map encQ, by omega, by omega, by rw [hil], by go_num, HI, ⟨rfl⟩, HR, HB, HK⟩
  case round =>
   clear HR HB HK HI hil
   obtain ⟨jj, rws, hjj, hgg, rfl, rfl, HI, HD, HR, HB, HK⟩ := hrel
   by_cases hlt : jj < l.length
   ·have hltz : (jj : Int) < (l.length : Int) := by omega
    have hnn : (0 : Int) ≤ (jj : Int) := by omega
    have hjr : rws.getD jj [] = encQ l[jj] := by
     have := congrArg (fun L => L.getD 0 []) HD.out
     simpa [List.getD_eq_getElem?_getD, List.getElem?_drop, List.getElem?_map, List.getElem?_eq_getElem hlt] using this
    obtain ⟨c, hcl, hcm, hcc, hcf⟩ := Kd.R_elem HR.out [] (jj : Int) hnn hltz
    have hce : c = [.string l[jj].f0, .int .i64 l[jj].f1] := by
     have := hcm.1
     rw [Int.toNat_natCast, hjr] at this
     exact this
    have hone := hcm.2.2
    subst hce
    have c0_ : wr.cell? ⟨g, jj * 2, none⟩ = some (.string l[jj].f0) := hcc 0 _ rfl
    have c1_ : wr.cell? ⟨g, jj * 2 + 1, none⟩ = some (.int .i64 l[jj].f1) := hcc 1 _ rfl
    have hgs := Kd.R_lt HR.out g (by simp [Value.ownBlock])
    have hBw : B < wr.heap.size := Nat.lt_of_lt_of_le hBl HK.out.1
    have hcw : ∀ o, (wr.alloc o).cell? ⟨B, 6, none⟩ = some (.string s) := fun o => cB (W := wr.alloc o) ⟨below_alloc (Below.refl _ _) o⟩ (cell_kept HCC.out HK.out hBg)
    have HONE := Aside0.mk hone
    clear hcm hcc hcf hcl hone hjr
    have hst := delN_step s l jj hlt
    have hIx := HI.out
    obtain ⟨hmj, htk, hrwl⟩ := hIx
    cases hq : (eqS l[jj].f0 s) with
    | true =>
     rw [hq, if_pos rfl, List.append_nil] at hst
     have HST := Aside0.mk hst
     clear hst htk hmj hrwl
     go_wp2_with (go_at_call 84; refine (entEq1.calls s _ _ B _ (by simp only [World.size_alloc]; omega) (hcw _)).mono ?_; rintro e w2 ⟨rfl, hb⟩; rw [hq])
     go_roundg (l.length - (jj + 1))
     case measure => omega
     case rel =>
      have hb2 := bold hb
      refine ⟨jj + 1, rws, by omega, by omega, by rw [HST.out], by go_num, ⟨?_⟩, ⟨?_⟩, ⟨Kd.R_below HR.out hb2⟩, ⟨below_then HB.out HB.out.size hb2⟩, ⟨Kept.below HK.out hb2⟩⟩
      ·rw [HST.out]; have := HI.out; exact ⟨by omega, this.2⟩
      ·have := congrArg (fun L => L.drop 1) HD.out
       simpa [List.drop_drop, Nat.add_comm] using this
    | false =>
     rw [hq, if_neg (by decide)] at hst
     have HST := Aside0.mk hst
     generalize hm : (delN s (l.take jj)).length = m at hmj htk ⊢
     have HTK := Aside0.mk htk
     have hml : (m : Int) < (l.length : Int) := by omega
     have hm0 : (0 : Int) ≤ (m : Int) := by omega
     clear hst htk
     go_wp2_with (first | (go_at_call 84; refine (entEq1.calls s _ _ B _ (by simp only [World.size_alloc]; omega) (hcw _)).mono ?_; rintro e w2 ⟨rfl, hb⟩; rw [hq]; have KV := bnew hb; replace hb := bold hb; have zv := z2 KV; have HR2 := Aside0.mk (Kd.R_below HR.out hb); have HB2 := Aside0.mk (below_then HB.out HB.out.size hb); have HK2 := Aside0.mk (Kept.below HK.out hb)) | ((with_reducible refine gate_store (t := 65) (p := 33) rfl ?_); obtain ⟨c', hcl', hcm', hcc', _⟩ := Kd.R_elem HR2.out [] (m : Int) hm0 hml; refine Kd.R_store (Kd.raw k65.sz) w0.heap.size rfl rfl 65 (.tmp 33) (.tmp 32) rfl 65 (m : Int) 0 rws [.string l[jj].f0, .int .i64 l[jj].f1] (.agg [.string l[jj].f0, .int .i64 l[jj].f1].toArray) [.string l[jj].f0, .int .i64 l[jj].f1] c' (fun k => k = g) (fun _ => False) rfl (by simp; rfl) rfl rfl (by kernel_rfl) HONE.out HR2.out hm0 hml hcl' hcc' (Nat.le_refl _) ?_ (fun _ hk => hk.elim) HB2.out ?_; (first | (exact raw_whole hcl' rfl HONE.out) | skip); intro w3 hr3 hb3 hg3))
     go_roundg (l.length - (jj + 1))
     case measure => omega
     case rel =>
      rw [Int.toNat_natCast] at hr3
      have hT := HTK.out
      have hlen : (delN s (l.take (jj + 1))).length = m + 1 := by rw [HST.out, List.length_append, hm]; rfl
      refine ⟨jj + 1, rws.set m [.string l[jj].f0, .int .i64 l[jj].f1], by omega, by omega, by rw [hlen]; go_num, by go_num, ⟨?_⟩, ⟨?_⟩, ⟨hr3⟩, ⟨hb3⟩, ⟨Kept.of_grown hg3 HK2.out (fun k e => .inl (by injection e with e; exact e.symm))⟩⟩
      ·refine ⟨by omega, ?_, by rw [List.length_set]; exact hrwl⟩
       rw [hlen, HST.out, List.map_append, List.take_succ_eq_append_getElem (by rw [List.length_set]; omega), List.getElem_set_self, List.take_set_of_le (Nat.le_refl m), hT]
       rfl
      ·rw [List.drop_set_of_lt (by omega)]
       have := congrArg (fun L => L.drop 1) HD.out
       simpa [List.drop_drop, Nat.add_comm] using this
   ·have hltz : ¬ (jj : Int) < (l.length : Int) := by omega
    obtain rfl : jj = l.length := by omega
    have hIx := HI.out
    rw [List.take_length] at hIx ⊢
    obtain ⟨hmj, htk, hrwl⟩ := hIx
    have hcap := (Kd.R_reads' HR.out).2.1
    have HTK := Aside0.mk htk
    generalize hm : (delN s l).length = m at hmj htk ⊢
    have hml : (m : Int) < (l.length : Int) := by omega
    have hm0 : (0 : Int) ≤ (m : Int) := by omega
    obtain ⟨w1, hst, hr1, hg1⟩ := raw_clear (P := Tryz.prog) (zs := (Builtin.zeroCells (Value.agg #[.string ⟨#[]⟩, .int .i64 0]).cells (l.length - m)).toList) (i := m) HR.out (by omega) (by rw [Array.length_toList, size_zeroCells]; rfl) (zeroCells_one (by decide) _)
    have hrun := fun ty => run_clear (P := Tryz.prog) (ty := ty) (c := c0 - m) (show Tryz.prog.underlying 48 = some (.slice 65) by kernel_rfl) (zEnt_run wr) (show l.length - m ≠ 0 by omega) (show (storeCells ⟨g, m * 2, none⟩ (Builtin.zeroCells (Value.agg #[.string ⟨#[]⟩, .int .i64 0]).cells (l.length - m)).toList).run Tryz.prog wr = .ok () w1 from hst)
    have hk1 : Kept w w1 (fun k => k = g) := Kept.of_grown hg1 HK.out (fun k e => .inl (by injection e with e; exact e.symm))
    have hb1 : Below w0.heap.size w0 w1 := HB.out.grown hg1 HB.out.size (fun k e => by injection e with e; rw [← e]; exact HG.out)
    rw [htk] at hr1
    have HR1 := Aside0.mk (Kd.R_mono (ok' := ok) (unrawR (d := k65) encQ (fun _ _ _ x => k65_mkM _ _ _ x) hr1) (fun k hk => hk ▸ HP.out))
    clear hst hr1 htk
    go_wp2_with ((with_reducible refine gate_builtin (b := .clear) rfl ?_); refine builtin_event (w1 := w1) rfl rfl rfl (v := .tuple #[]) ?hr ?_; (case hr => go_simp; rw [hrun 0]; rfl); (intro w2 hw; subst hw))
    go_ret
    exact ⟨rfl, HR1.out, hb1, hk1.mono (fun k hk => by rw [hk]; exact HP.out)⟩
def impl_spot_leave.f (k : Nat) (a0_0 a0_1 a0_2 : Int) (l0_3 : List Int) (l0_4 : List S65) (l0_5 : List S71) (a0_6 : ByteArray) (l1_0 : List S51) (a1_1 : Int) : Option (List S51 × Int) :=
 (slices_Clone_Ent.f l0_4).bind fun y => if y.length ≤ 9223372036854775807 then impl_SetInode.f k l1_0 a1_1 a0_0 a0_1 a0_2 l0_3 (delN a0_6 y) l0_5 else none
set_option maxHeartbeats 4000000 in
set_option maxRecDepth 100000 in
theorem impl_spot_leave.calls (k : Nat) (a0_0 a0_1 a0_2 : Int) (A0_3 : Option Addr) (c0_3 : Nat) (l0_3 : List Int) (A0_4 : Option Addr) (c0_4 : Nat) (l0_4 : List S65) (A0_5 : Option Addr) (c0_5 : Nat) (l0_5 : List S71) (a0_6 : ByteArray) (A1_0 : Option Addr) (c1_0 : Nat) (l1_0 : List S51) (a1_1 : Int) (r1 : List S51) (r2 : Int) (w : World)
  (hr0_3 : Kd.C (Kd.int .u8) w A0_3 l0_3.length l0_3) (hc0_3 : l0_3.length ≤ c0_3) (hr0_4 : Kd.C k65 w A0_4 l0_4.length l0_4) (hc0_4 : l0_4.length ≤ c0_4) (hr0_5 : Kd.C k71 w A0_5 l0_5.length l0_5) (hc0_5 : l0_5.length ≤ c0_5) (hr1_0 : Kd.C k51 w A1_0 l1_0.length l1_0) (hc1_0 : l1_0.length ≤ c1_0) (h : impl_spot_leave.f k a0_0 a0_1 a0_2 l0_3 l0_4 l0_5 a0_6 l1_0 a1_1 = some (r1, r2)) :
  Calls Tryz.prog 60 #[.agg #[.int .i64 a0_0, .int .i64 a0_1, .int .i64 a0_2, .slice A0_3 l0_3.length c0_3, .slice A0_4 l0_4.length c0_4, .slice A0_5 l0_5.length c0_5, .string a0_6], .agg #[.slice A1_0 l1_0.length c1_0, .int .i64 a1_1]] w fun e w' => ∃ v0_ : Value, e = .returned (.agg #[v0_, .int .i64 r2]) ∧ Kd.S k51 51 w' w.heap.size (fun _ => True) v0_ r1 ∧ Below w.heap.size w w' := by
 unfold impl_spot_leave.f at h
 replace h := bA h
 obtain ⟨y, H1, h⟩ := h
 split at h
 case isFalse => cases h
 case isTrue hl =>
 have HLY := Aside0.mk hl
 obtain ⟨Y, hY⟩ : ∃ Y, Y = delN a0_6 y := ⟨_, rfl⟩
 rw [← hY] at h
 have HY := Aside0.mk hY
 have H2 := Aside0.mk h
 have HR3 := Aside0.mk hr0_3
 have HC3 := Aside0.mk hc0_3
 have HR4 := Aside0.mk hr0_4
 have HC4 := Aside0.mk hc0_4
 have HR5 := Aside0.mk hr0_5
 have HC5 := Aside0.mk hc0_5
 have HR0 := Aside0.mk hr1_0
 have HC0 := Aside0.mk hc1_0
 clear hl h hY hr0_3 hc0_3 hr0_4 hc0_4 hr0_5 hc0_5 hr1_0 hc1_0
 have HB := Aside0.mk (Below.refl w.heap.size w)
 go_enter Tryz.func60, Tryz.ntmps60
 go_upto_region 2 with (first | ((with_reducible refine gate_dst (N := 2) rfl ?_); refine bx_ 2 #[.int .i64 a0_0, .int .i64 a0_1, .int .i64 a0_2, .slice A0_3 l0_3.length c0_3, .slice A0_4 l0_4.length c0_4, .slice A0_5 l0_5.length c0_5, .string a0_6] 84 ?_; intro gb3 hg w1 hbox hb; have BK3 := Aside0.mk hbox; have GW3 := gs_ hg; replace HB := Aside0.mk (below_step oB hb); clear hb hbox hg) | ((with_reducible refine gate_dst (N := 3) rfl ?_); refine bx_ 3 #[.slice A1_0 l1_0.length c1_0, .int .i64 a1_1] 26 ?_; intro gb4 hg w2 hbox hb; have BK4 := Aside0.mk hbox; have GW4 := gs_ hg; have NB34 := nl_ hg BK3; have NB43 := nr_ hg BK3; replace BK3 := kb_ BK3 hb; replace HB := Aside0.mk (below_step oB hb); clear hb hbox hg) | ((with_reducible refine gate_dst (N := 4) rfl ?_); refine bx_ 4 #[.slice none 0 0, .int .i64 0] 26 ?_; intro gb6 hg w3 hbox hb; have BK6 := Aside0.mk hbox; have GW6 := gs_ hg; have NB36 := nl_ hg BK3; have NB63 := nr_ hg BK3; have NB46 := nl_ hg BK4; have NB64 := nr_ hg BK4; replace BK3 := kb_ BK3 hb; replace BK4 := kb_ BK4 hb; replace HB := Aside0.mk (below_step oB hb); clear hb hbox hg; obtain ⟨⟨_, _, _, _, _, _, _⟩, _, _, _, _, _, _, _⟩ := z7 BK3) | ((with_reducible refine gate_callee (f := 82) rfl ?_); refine gl_ 8 Tryz.func82 (slices_Clone_Ent.calls _ _ l0_4 y _ (kC HR4) HC4.out H1.out) ?_; rintro e w4 ⟨v8, rfl, ho, hb⟩; refine ⟨_, rfl, ?_⟩; have HO := Aside0.mk (Kd.R_lower (Kd.R_newB (Kd.R_newB (Kd.R_newB ho (oF BK3)) (oF BK4)) (oF BK6)) (below_size oB)); replace BK3 := kb_ BK3 hb; replace BK4 := kb_ BK4 hb; replace BK6 := kb_ BK6 hb; replace HB := Aside0.mk (below_step oB hb); clear hb ho; obtain ⟨A8, c8, rfl⟩ := Kd.R_slice HO.out) | (go_at_call 83; refine (delEnt.calls a0_6 A8 c8 y gb3 (fun k_ => k_ ≠ gb3 ∧ k_ ≠ gb4 ∧ k_ ≠ gb6) w _ oB (Kd.R_mono (oR HO) (fun _ hk => ⟨hk.1.1.2, hk.1.2, hk.2⟩)) (blk_lt (oF BK3)) ((blk_cell (oF BK3) 6).trans rfl) (fun h => h.1 rfl) HLY.out).mono ?_; rw [← HY.out]; rintro e w5 ⟨rfl, hr, hb, hk⟩; have HO8 := Aside0.mk hr; replace BK3 := bkept ⟨oF BK3⟩ hk (fun h => h.1 rfl); replace BK4 := bkept ⟨oF BK4⟩ hk (fun h => h.2.1 rfl); replace BK6 := bkept ⟨oF BK6⟩ hk (fun h => h.2.2 rfl); replace HB := Aside0.mk hb; clear hr hb hk HO; obtain ⟨⟨_, _, _, _, _, _, _⟩, _, _, _, _, _, _, _⟩ := z7 BK3))
 have n3_ : Aside0 ((w5.setCell ⟨gb3, 4, none⟩ (.slice A8 Y.length c8)).heap[gb3]? = some (.cells #[.int .i64 a0_0, .int .i64 a0_1, .int .i64 a0_2, .slice A0_3 l0_3.length c0_3, .slice A8 Y.length c8, .slice A0_5 l0_5.length c0_5, .string a0_6] 84 (0, 0))) := ⟨oP BK3⟩
 have n4_ := Aside0.mk (Kd.R_far (p := ⟨gb3, 4, none⟩) HO8.out (fun _ hk => hk.1) (.slice A8 Y.length c8))
 generalize hW_ : w5.setCell ⟨gb3, 4, none⟩ (.slice A8 Y.length c8) = w9 at n3_ n4_ ⊢
 replace BK4 := kw_ hW_ BK4
 replace BK6 := kw_ hW_ BK6
 replace HB := hw_ hW_ HB
 clear BK3 HO8 hW_
 obtain ⟨⟨_, _, _, _, _, _, _⟩, _, _, _, _, _, _, _⟩ := z7 n3_
 obtain ⟨⟨_, _⟩, _, _⟩ := z2 BK4
 go_wp2_with ((with_reducible refine gate_callee (f := 50) rfl ?_); refine gl_ 16 Tryz.func50 (impl_SetInode.calls k _ _ l1_0 a1_1 a0_0 a0_1 a0_2 _ _ l0_3 _ _ Y _ _ l0_5 r1 r2 _ (kC HR0) HC0.out (kC HR3) HC3.out (kO n4_) (ko n4_) (kC HR5) HC5.out H2.out) ?_; rintro e w10 ⟨v0, rfl, hs, hb⟩; refine ⟨_, rfl, ?_⟩; obtain ⟨A0, c0, rfl⟩ := Kd.S_slice hs; have HS := siv' hs w9.heap.size w.heap.size (Nat.le_refl _) (below_size HB.out); have hl6 := Aside0.mk (blk_lt BK6.out); replace BK6 := kb_ BK6 hb; replace HB := Aside0.mk (below_step oB hb); clear hs hb; obtain ⟨⟨_, _⟩, _, _⟩ := z2 BK6)
 refine bodyPost_ret (results_cell_row rfl _ _ gb6 26 #[.slice A0 r1.length c0, .int .i64 r2] (0, 0) _ rfl (oP BK6) Tryz.underlying26 rfl (by kernel_rfl)) rfl ?_
 exact ⟨_, rfl, Kd.S_mono (Kd.S_far (Kd.S_far HS.out (fun k_ hk => by have := hk.1; have := hl6.out; dsimp only; omega) _) (fun k_ hk => by have := hk.1; have := hl6.out; dsimp only; omega) _) (fun _ _ => trivial), oB⟩
/-! ### impl_spot_enter: function 59 -/
def gtS (a b : ByteArray) : Bool := !(Op.bytesLess a.toList b.toList || a.toList == b.toList)
def gtN (s : ByteArray) : List S65 → Nat → Int
 | [], _ => -1
 | x :: l, i => if gtS x.f0 s = true then (i : Int) else gtN s l (i + 1)
theorem entGt1.calls (s a : ByteArray) (b : Int) (B : Nat) (W : World) (hB : B < W.heap.size) (hc : W.cell? ⟨B, 6, none⟩ = some (.string s)) :
  Calls Tryz.prog 80 #[.agg #[.string a, .int .i64 b], .pointer (some ⟨B, 0, none⟩)] W fun e w' => e = .returned (.bool (gtS a s)) ∧ Below W.heap.size W w' := by
 have hne : B ≠ W.heap.size := by omega
 go_enter Tryz.func80, Tryz.ntmps80
 go_wp2
 all_goals (go_ret; exact ⟨by simp_all [gtS], (Below.refl _ W).alloc (Nat.le_refl _) _⟩)
theorem erd_at (l : List S65) (k : Nat) (h : k < l.length) : rd_T65 l (k : Int) = l[k] := by
 simp [rd_T65, List.getD_eq_getElem?_getD, List.getElem?_eq_getElem h]
theorem gtN_hit (s : ByteArray) (l : List S65) (k j : Nat) (h : k < l.length) (hit : gtS (rd_T65 l (k : Int)).f0 s = true) : gtN s (l.drop k) j = (j : Int) := by
 rw [List.drop_eq_getElem_cons h, gtN, if_pos (by rw [← erd_at l k h]; exact hit)]
theorem gtN_miss (s : ByteArray) (l : List S65) (k j : Nat) (h : k < l.length) (hit : gtS (rd_T65 l (k : Int)).f0 s = false) : gtN s (l.drop k) j = gtN s (l.drop (k + 1)) (j + 1) := by
 rw [List.drop_eq_getElem_cons h, gtN, if_neg (by rw [← erd_at l k h, hit]; decide)]
set_option maxHeartbeats 400000 in
set_option maxRecDepth 100000 in
theorem entGt2.calls (s : ByteArray) (A0 : Option Addr) (c0 : Nat) (l : List S65) (B : Nat) (w : World) (hr : k65.C w A0 l.length l) (hB : B < w.heap.size) (hc : w.cell? ⟨B, 6, none⟩ = some (.string s)) (hl : l.length ≤ 9223372036854775807) :
  Calls Tryz.prog 79 #[.slice A0 l.length c0, .func (.func 80) #[] #[.pointer (some ⟨B, 0, none⟩)]] w fun e w' => e = .returned (.int .i64 (gtN s l 0)) ∧ Below w.heap.size w w' := by
 go_enter Tryz.func79, Tryz.ntmps79
 go_wp2
 go_loopg [5, 8] l.length (fun gg _ s8 wr => ∃ kk : Nat, kk ≤ l.length ∧ l.length - kk ≤ gg ∧ s8 = .int .i64 kk ∧ Aside0 (Below w.heap.size w wr) ∧ Aside0 (gtN s l 0 = gtN s (l.drop kk) kk))
 case atStart => exact ⟨0, Nat.zero_le _, by omega, rfl, ⟨Below.refl _ w⟩, ⟨rfl⟩⟩
 case round =>
  obtain ⟨kk, hkk, hg, rfl, BW, A⟩ := hrel
  by_cases hlt : kk < l.length
  ·have hltz : (kk : Int) < (l.length : Int) := by omega
   obtain ⟨ad, e0, h0, h1⟩ := at_T65 (Kd.C_below hr BW.out) (kk : Int) (by omega) hltz
   cases e0
   rw [Int.toNat_natCast] at h0 h1
   have hBw : B < wr.heap.size := Nat.lt_of_lt_of_le hB BW.out.size
   have hcw : wr.cell? ⟨B, 6, none⟩ = some (.string s) := (BW.out.cell (p := ⟨B, 6, none⟩) hB).trans hc
   cases hq : gtS (rd_T65 l (kk : Int)).f0 s with
   | true =>
    go_wp2_with (go_at_call 80; refine (entGt1.calls s _ _ B wr hBw hcw).mono ?_; rintro e w' ⟨rfl, hb'⟩; rw [hq])
    go_ret
    exact ⟨by rw [A.out, gtN_hit s l kk kk hlt hq]; rfl, below_then BW.out BW.out.size hb'⟩
   | false =>
    go_wp2_with (go_at_call 80; refine (entGt1.calls s _ _ B wr hBw hcw).mono ?_; rintro e w' ⟨rfl, hb'⟩; rw [hq])
    go_roundg (l.length - (kk + 1))
    case measure => omega
    case rel => exact ⟨kk + 1, by omega, by omega, by go_num, ⟨below_then BW.out BW.out.size hb'⟩, ⟨by rw [A.out, gtN_miss s l kk kk hlt hq]⟩⟩
  ·have hltz : ¬ (kk : Int) < (l.length : Int) := by omega
   obtain rfl : kk = l.length := by omega
   go_wp2
   go_ret
   exact ⟨by rw [A.out, List.drop_length]; rfl, BW.out⟩
theorem gtN_spec (s : ByteArray) (l : List S65) : ∀ j : Nat, gtN s l j = -1 ∨ ∃ i : Nat, gtN s l j = ((j + i : Nat) : Int) ∧ i < l.length := by
 induction l with
 | nil => intro j; exact .inl rfl
 | cons x l ih =>
  intro j
  rw [gtN]
  split
  ·exact .inr ⟨0, by simp, by simp⟩
  ·rcases ih (j + 1) with h | ⟨i, h, hi⟩
   ·exact .inl h
   ·exact .inr ⟨i + 1, by rw [h]; omega, by simp only [List.length_cons]; omega⟩
def posN (s : ByteArray) (l : List S65) : Nat := if gtN s l 0 < 0 then l.length else (gtN s l 0).toNat
def encE (x : S65) : List Value := [.string x.f0, .int .i64 x.f1]
def impl_spot_enter.f (k : Nat) (a0_0 a0_1 a0_2 : Int) (l0_3 : List Int) (l0_4 : List S65) (l0_5 : List S71) (a0_6 : ByteArray) (l1_0 : List S51) (a1_1 a2 : Int) : Option (List S51 × Int) :=
 (slices_Clone_Ent.f l0_4).bind fun y => if posN a0_6 l0_4 ≤ y.length ∧ (y.length + 1) * 24 ≤ 140737488355328 ∧ l0_4.length ≤ 9223372036854775807 then impl_SetInode.f k l1_0 a1_1 a0_0 a0_1 a0_2 l0_3 (y.take (posN a0_6 l0_4) ++ [⟨a0_6, a2⟩] ++ y.drop (posN a0_6 l0_4)) l0_5 else none
set_option maxHeartbeats 4000000 in
set_option maxRecDepth 100000 in
theorem impl_spot_enter.calls (k : Nat) (a0_0 a0_1 a0_2 : Int) (A0_3 : Option Addr) (c0_3 : Nat) (l0_3 : List Int) (A0_4 : Option Addr) (c0_4 : Nat) (l0_4 : List S65) (A0_5 : Option Addr) (c0_5 : Nat) (l0_5 : List S71) (a0_6 : ByteArray) (A1_0 : Option Addr) (c1_0 : Nat) (l1_0 : List S51) (a1_1 a2 : Int) (r1 : List S51) (r2 : Int) (w : World)
  (hr0_3 : Kd.C (Kd.int .u8) w A0_3 l0_3.length l0_3) (hc0_3 : l0_3.length ≤ c0_3) (hr0_4 : Kd.C k65 w A0_4 l0_4.length l0_4) (hc0_4 : l0_4.length ≤ c0_4) (hr0_5 : Kd.C k71 w A0_5 l0_5.length l0_5) (hc0_5 : l0_5.length ≤ c0_5) (hr1_0 : Kd.C k51 w A1_0 l1_0.length l1_0) (hc1_0 : l1_0.length ≤ c1_0) (h : impl_spot_enter.f k a0_0 a0_1 a0_2 l0_3 l0_4 l0_5 a0_6 l1_0 a1_1 a2 = some (r1, r2)) :
  Calls Tryz.prog 59 #[.agg #[.int .i64 a0_0, .int .i64 a0_1, .int .i64 a0_2, .slice A0_3 l0_3.length c0_3, .slice A0_4 l0_4.length c0_4, .slice A0_5 l0_5.length c0_5, .string a0_6], .agg #[.slice A1_0 l1_0.length c1_0, .int .i64 a1_1], .int .i64 a2] w fun e w' => ∃ v0_ : Value, e = .returned (.agg #[v0_, .int .i64 r2]) ∧ Kd.S k51 51 w' w.heap.size (fun _ => True) v0_ r1 ∧ Below w.heap.size w w' := by
 unfold impl_spot_enter.f at h
 replace h := bA h
 obtain ⟨y, H1, h⟩ := h
 split at h
 case isFalse => cases h
 case isTrue hl =>
 have HPY := Aside0.mk hl.1
 have H24 := Aside0.mk hl.2.1
 have HL4 := Aside0.mk hl.2.2
 obtain ⟨Y, hY⟩ : ∃ Y, Y = (y.take (posN a0_6 l0_4) ++ [(⟨a0_6, a2⟩ : S65)] ++ y.drop (posN a0_6 l0_4)) := ⟨_, rfl⟩
 rw [← hY] at h
 have HY := Aside0.mk hY
 have H2 := Aside0.mk h
 have HR3 := Aside0.mk hr0_3
 have HC3 := Aside0.mk hc0_3
 have HR4 := Aside0.mk hr0_4
 have HC4 := Aside0.mk hc0_4
 have HR5 := Aside0.mk hr0_5
 have HC5 := Aside0.mk hc0_5
 have HR0 := Aside0.mk hr1_0
 have HC0 := Aside0.mk hc1_0
 clear hl h hY hr0_3 hc0_3 hr0_4 hc0_4 hr0_5 hc0_5 hr1_0 hc1_0
 have HB := Aside0.mk (Below.refl w.heap.size w)
 go_enter Tryz.func59, Tryz.ntmps59
 go_upto_if 14 with (first | ((with_reducible refine gate_dst (N := 3) rfl ?_); refine bx_ 3 #[.int .i64 a0_0, .int .i64 a0_1, .int .i64 a0_2, .slice A0_3 l0_3.length c0_3, .slice A0_4 l0_4.length c0_4, .slice A0_5 l0_5.length c0_5, .string a0_6] 84 ?_; intro gb3 hg w1 hbox hb; have BK3 := Aside0.mk hbox; have GW3 := gs_ hg; replace HB := Aside0.mk (below_step oB hb); clear hb hbox hg) | ((with_reducible refine gate_dst (N := 4) rfl ?_); refine bx_ 4 #[.slice A1_0 l1_0.length c1_0, .int .i64 a1_1] 26 ?_; intro gb4 hg w2 hbox hb; have BK4 := Aside0.mk hbox; have GW4 := gs_ hg; have NB34 := nl_ hg BK3; have NB43 := nr_ hg BK3; replace BK3 := kb_ BK3 hb; replace HB := Aside0.mk (below_step oB hb); clear hb hbox hg) | ((with_reducible refine gate_dst (N := 6) rfl ?_); refine bx_ 6 #[.slice none 0 0, .int .i64 0] 26 ?_; intro gb6 hg w3 hbox hb; have BK6 := Aside0.mk hbox; have GW6 := gs_ hg; have NB36 := nl_ hg BK3; have NB63 := nr_ hg BK3; have NB46 := nl_ hg BK4; have NB64 := nr_ hg BK4; replace BK3 := kb_ BK3 hb; replace BK4 := kb_ BK4 hb; replace HB := Aside0.mk (below_step oB hb); clear hb hbox hg; obtain ⟨⟨_, _, _, _, _, _, _⟩, _, _, _, _, _, _, _⟩ := z7 BK3) | (go_at_call 79; refine (entGt2.calls a0_6 A0_4 c0_4 l0_4 gb3 _ (kC HR4) (blk_lt (oF BK3)) ((blk_cell (oF BK3) 6).trans rfl) HL4.out).mono ?_; rintro e w4 ⟨rfl, hb⟩; replace BK3 := kb_ BK3 hb; replace BK4 := kb_ BK4 hb; replace BK6 := kb_ BK6 hb; replace HB := Aside0.mk (below_step oB hb); clear hb))
 (try simp only [Act.put, List.setIfInBounds_toArray, List.set_cons_zero, List.set_cons_succ])
 go_cut [7] (fun v7 wc => v7 = .int .i64 ((posN a0_6 l0_4 : Nat) : Int) ∧ Aside0 (wc.heap[gb3]? = some (.cells #[.int .i64 a0_0, .int .i64 a0_1, .int .i64 a0_2, .slice A0_3 l0_3.length c0_3, .slice A0_4 l0_4.length c0_4, .slice A0_5 l0_5.length c0_5, .string a0_6] 84 (0, 0))) ∧ Aside0 (wc.heap[gb4]? = some (.cells #[.slice A1_0 l1_0.length c1_0, .int .i64 a1_1] 26 (0, 0))) ∧ Aside0 (wc.heap[gb6]? = some (.cells #[.slice none 0 0, .int .i64 0] 26 (0, 0))) ∧ Aside0 (Below w.heap.size w wc))
 case first =>
  obtain ⟨⟨_, _, _, _, _, _, _⟩, _, _, _, _, _, _, _⟩ := z7 BK3
  rcases gtN_spec a0_6 l0_4 0 with hgt | ⟨j, hgt, hj⟩
  ·have hpo : posN a0_6 l0_4 = l0_4.length := by unfold posN; rw [hgt]; rfl
   have hj0 : decide ((-1 : Int) < 0) = true := rfl
   rw [hgt]
   go_wp2
   go_meet
   case rel => exact ⟨by rw [hpo], ⟨oF BK3⟩, ⟨oF BK4⟩, ⟨oF BK6⟩, ⟨oB⟩⟩
  ·have hpo : posN a0_6 l0_4 = j := by unfold posN; rw [hgt, if_neg (by omega)]; omega
   have hj0 : decide (((0 + j : Nat) : Int) < 0) = false := decide_eq_false (by omega)
   rw [hgt]
   go_wp2
   go_meet
   case rel => exact ⟨by rw [hpo, Nat.zero_add], ⟨oF BK3⟩, ⟨oF BK4⟩, ⟨oF BK6⟩, ⟨oB⟩⟩
 case rest =>
  obtain ⟨rfl, BK3, BK4, BK6, HB⟩ := hcut
  try go_wp2
  replace BK3 := Aside0.mk (blk_drew BK3.out)
  replace BK4 := Aside0.mk (blk_drew BK4.out)
  replace BK6 := Aside0.mk (blk_drew BK6.out)
  replace HB := Aside0.mk (below_drew1 HB.out)
  refine start_ (n := 14) (S := fun w' => w'.cell? ⟨gb3, 4, none⟩ = some (.slice A0_4 l0_4.length c0_4) ∧ w'.cell? ⟨gb3, 6, none⟩ = some (.string a0_6)) (ds := [13]) (lb 14 0) (by kernel_rfl) rfl rfl oH (fun hHeld => ?_)
  generalize wc.drew = w5 at BK3 BK4 BK6 HB hHeld ⊢
  refine p0_ 0 19 ?_
  refine p0_ 1 20 ?_
  refine t0_ 2 21 hHeld ?_
  refine p0_ 4 23 ?_
  refine p0_ 5 24 ?_
  refine t0_ 6 25 hHeld ?_
  refine p0_ 7 26 ?_
  refine p0_ 8 27 ?_
  refine join_ (σ := Value × Nat) 4 (lb 14 1023) (fun s_ => [(22, s_.1), (28, .slice (some ⟨s_.2, 0, none⟩) 1 1)]) (fun s_ w' => (w'.cell? ⟨gb3, 4, none⟩ = some (.slice A0_4 l0_4.length c0_4) ∧ w'.cell? ⟨gb3, 6, none⟩ = some (.string a0_6)) ∧ Kd.R k65 65 w' w.heap.size (fun k_ => k_ ≠ gb3 ∧ k_ ≠ gb4 ∧ k_ ≠ gb6 ∧ k_ ≠ s_.2) s_.1 y ∧ w'.heap[s_.2]? = some (.cells #[.string a0_6, .int .i64 a2] 65 (0, 0)) ∧ w'.heap[gb3]? = some (.cells #[.int .i64 a0_0, .int .i64 a0_1, .int .i64 a0_2, .slice A0_3 l0_3.length c0_3, .slice A0_4 l0_4.length c0_4, .slice A0_5 l0_5.length c0_5, .string a0_6] 84 (0, 0)) ∧ w'.heap[gb4]? = some (.cells #[.slice A1_0 l1_0.length c1_0, .int .i64 a1_1] 26 (0, 0)) ∧ w'.heap[gb6]? = some (.cells #[.slice none 0 0, .int .i64 0] 26 (0, 0)) ∧ Below w.heap.size w w') ?_ ?_
  rotate_left
  ·intro hCont
   refine two_ (i := 3) (j := 9) (Ni := some 22) (Nj := some 28) (lb 14 511) (lb 14 1015) rfl rfl rfl rfl (by kernel_rfl) (by decide) (by decide) (fun K hK => ?_) (fun K hK => ?_)
   ·refine gr_ 22 Tryz.func82 (slices_Clone_Ent.calls _ _ l0_4 y _ (kC HR4) HC4.out H1.out) ?_
    rintro e w6 ⟨v22, rfl, ho, hb⟩
    refine ⟨_, rfl, ?_⟩
    have HO := Aside0.mk (Kd.R_lower (Kd.R_newB (Kd.R_newB (Kd.R_newB ho (oF BK3)) (oF BK4)) (oF BK6)) (below_size oB))
    replace BK3 := kb_ BK3 hb
    replace BK4 := kb_ BK4 hb
    replace BK6 := kb_ BK6 hb
    replace HB := Aside0.mk (below_step oB hb)
    clear hb ho
    refine hk_ hK 22 oH (fun hHeld => ?_)
    clear hK K
    refine o0_ 9 28 (fun K hK => ?_)
    refine event_step (v := .slice (some ⟨w6.heap.size, 0, none⟩) 1 1) (w1 := w6.alloc (.cells #[.string a0_6, .int .i64 a2] 65)) (by rfl) (by first | (go_simp; done) | (go_simp; rfl)) ?_
    refine hk_ hK 28 ⟨(World.cell?_alloc_lt _ _ _ (blk_lt BK3.out)).trans hHeld.1, (World.cell?_alloc_lt _ _ _ (blk_lt BK3.out)).trans hHeld.2⟩ (fun hHeld => ?_)
    clear hK K
    exact norm_ (by simp only [putAll, Act.put, List.setIfInBounds_toArray, List.set_cons_zero, List.set_cons_succ]) (hCont (v22, w6.heap.size) _ ⟨hHeld, Kd.R_alloc (Kd.R_mono (Kd.R_bound HO.out) (fun _ hk => ⟨hk.1.1.1.2, hk.1.1.2, hk.1.2, Nat.ne_of_lt hk.2.2.1⟩)) _, blk_new _ _, blk_alloc BK3.out _, blk_alloc BK4.out _, blk_alloc BK6.out _, below_alloc HB.out _⟩)
   ·refine event_step (v := .slice (some ⟨w5.heap.size, 0, none⟩) 1 1) (w1 := w5.alloc (.cells #[.string a0_6, .int .i64 a2] 65)) (by rfl) (by first | (go_simp; done) | (go_simp; rfl)) ?_
    refine hk_ hK 28 ⟨(World.cell?_alloc_lt _ _ _ (blk_lt BK3.out)).trans hHeld.1, (World.cell?_alloc_lt _ _ _ (blk_lt BK3.out)).trans hHeld.2⟩ (fun hHeld => ?_)
    clear hK K
    have BK9 := Aside0.mk (blk_new w5 (.cells #[.string a0_6, .int .i64 a2] 65))
    replace BK3 := Aside0.mk (blk_alloc BK3.out (.cells #[.string a0_6, .int .i64 a2] 65))
    replace BK4 := Aside0.mk (blk_alloc BK4.out (.cells #[.string a0_6, .int .i64 a2] 65))
    replace BK6 := Aside0.mk (blk_alloc BK6.out (.cells #[.string a0_6, .int .i64 a2] 65))
    replace HB := Aside0.mk (below_alloc HB.out (.cells #[.string a0_6, .int .i64 a2] 65))
    generalize w5.alloc (.cells #[.string a0_6, .int .i64 a2] 65) = w6 at BK3 BK4 BK6 BK9 HB hHeld ⊢
    refine o0_ 3 22 (fun K hK => ?_)
    refine gr_ 22 Tryz.func82 (slices_Clone_Ent.calls _ _ l0_4 y _ (kC HR4) HC4.out H1.out) ?_
    rintro e w7 ⟨v22, rfl, ho, hb⟩
    refine ⟨_, rfl, ?_⟩
    have HO := Aside0.mk (Kd.R_lower (Kd.R_newB (Kd.R_newB (Kd.R_newB (Kd.R_newB ho (oF BK3)) (oF BK4)) (oF BK6)) (oF BK9)) (below_size oB))
    replace BK3 := kb_ BK3 hb
    replace BK4 := kb_ BK4 hb
    replace BK6 := kb_ BK6 hb
    replace BK9 := kb_ BK9 hb
    replace HB := Aside0.mk (below_step oB hb)
    clear hb ho
    refine hk_ hK 22 oH (fun hHeld => ?_)
    clear hK K
    exact norm_ (by simp only [putAll, Act.put, List.setIfInBounds_toArray, List.set_cons_zero, List.set_cons_succ]) (hCont (v22, w5.heap.size) _ ⟨hHeld, Kd.R_mono HO.out (fun _ hk => ⟨hk.1.1.1.2, hk.1.1.2, hk.1.2, hk.2⟩), BK9.out, BK3.out, BK4.out, BK6.out, HB.out⟩)
  clear BK3 BK4 BK6 HB hHeld
  rintro ⟨v22, g9⟩ w7 ⟨hHeld, hR, hG, b3, b4, b6, hB⟩
  dsimp only at hR hG
  have BK3 := Aside0.mk b3
  have BK4 := Aside0.mk b4
  have BK6 := Aside0.mk b6
  have HB := Aside0.mk hB
  clear b3 b4 b6 hB
  obtain ⟨A9, c9, rfl⟩ := Kd.R_slice hR
  refine norm_ (a' := ?_) ?_ ?_
  rotate_left
  ·simp only [putAll, Act.put, List.setIfInBounds_toArray, List.set_cons_zero, List.set_cons_succ]
   rfl
  refine o0_ 10 29 (fun K hK => ?_)
  refine gr_ 29 Tryz.func81 (insEnt.calls A9 y.length c9 (posN a0_6 l0_4) g9 w.heap.size _ (y.map encE) [.string a0_6, .int .i64 a2] w _ HPY.out (List.length_map ..) (rawR (d := k65) encE (fun _ _ _ _ _ h => k65_openM h) hR) hG (Kd.R_away hR (fun _ hk => hk.2.2.2)) rfl (by simp; exact ⟨rfl, rfl⟩) HB.out (below_size HB.out) H24.out) ?_
  rintro e w8 ⟨v', rfl, hr8, hb8, hg8, hat8⟩
  refine ⟨_, rfl, ?_⟩
  rw [show (y.map encE).take (posN a0_6 l0_4) ++ [[.string a0_6, .int .i64 a2]] ++ (y.map encE).drop (posN a0_6 l0_4) = Y.map encE from by rw [HY.out]; simp [List.map_take, List.map_drop, encE]] at hr8
  have HR8 := Aside0.mk (Kd.R_mono (ok' := fun k_ => k_ ≠ gb3 ∧ k_ ≠ gb4 ∧ k_ ≠ gb6) (unrawR (d := k65) encE (fun _ _ _ x => k65_mkM _ _ _ x) hr8) (fun k_ hk => by
   have l3 := blk_lt BK3.out
   have l4 := blk_lt BK4.out
   have l6 := blk_lt BK6.out
   rcases hk with h | h
   ·have := hR.1 k_ h.symm
    exact ⟨this.1, this.2.1, this.2.2.1⟩
   ·exact ⟨by omega, by omega, by omega⟩))
  replace BK3 := Aside0.mk (blk_grown BK3.out hg8 (Kd.R_away hR (fun _ hk => hk.1)))
  replace BK4 := Aside0.mk (blk_grown BK4.out hg8 (Kd.R_away hR (fun _ hk => hk.2.1)))
  replace BK6 := Aside0.mk (blk_grown BK6.out hg8 (Kd.R_away hR (fun _ hk => hk.2.2.1)))
  replace HB := Aside0.mk hb8
  obtain ⟨A8, c8, rfl⟩ := Kd.R_slice HR8.out
  clear hr8 hb8 hg8 hat8 hR hG hHeld
  refine hk_ hK 29 oH (fun hHeld => ?_)
  clear hK K
  refine p0_ 11 30 ?_
  refine p0_ 12 31 ?_
  refine last_ (i := 13) (N := none) (lb 14 16383) rfl rfl (by kernel_rfl) (by decide) (fun K hK => ?_)
  obtain ⟨⟨_, _, _, _, _, _, _⟩, _, _, _, _, _, _, _⟩ := z7 BK3
  refine skip_ (w1 := ?_) (by rfl) rfl ?_ ?_
  rotate_left
  ·go_simp
   rfl
  refine hK.out _ _ ?_
  clear hK K
  refine done_ (by kernel_rfl) ?_
  have n3_ : Aside0 ((w8.setCell ⟨gb3, 4, none⟩ (.slice A8 Y.length c8)).heap[gb3]? = some (.cells #[.int .i64 a0_0, .int .i64 a0_1, .int .i64 a0_2, .slice A0_3 l0_3.length c0_3, .slice A8 Y.length c8, .slice A0_5 l0_5.length c0_5, .string a0_6] 84 (0, 0))) := ⟨oP BK3⟩
  have n4_ := Aside0.mk (Kd.R_far (p := ⟨gb3, 4, none⟩) HR8.out (fun _ hk => hk.1) (.slice A8 Y.length c8))
  generalize hW_ : w8.setCell ⟨gb3, 4, none⟩ (.slice A8 Y.length c8) = w9 at n3_ n4_ ⊢
  replace BK4 := kw_ hW_ BK4
  replace BK6 := kw_ hW_ BK6
  replace HB := hw_ hW_ HB
  clear BK3 HR8 hW_
  obtain ⟨⟨_, _, _, _, _, _, _⟩, _, _, _, _, _, _, _⟩ := z7 n3_
  obtain ⟨⟨_, _⟩, _, _⟩ := z2 BK4
  go_wp2_with ((with_reducible refine gate_callee (f := 50) rfl ?_); refine gl_ 35 Tryz.func50 (impl_SetInode.calls k _ _ l1_0 a1_1 a0_0 a0_1 a0_2 _ _ l0_3 _ _ Y _ _ l0_5 r1 r2 _ (kC HR0) HC0.out (kC HR3) HC3.out (kO n4_) (ko n4_) (kC HR5) HC5.out H2.out) ?_; rintro e w10 ⟨v0, rfl, hs, hb⟩; refine ⟨_, rfl, ?_⟩; obtain ⟨A0, c0, rfl⟩ := Kd.S_slice hs; have HS := siv' hs w9.heap.size w.heap.size (Nat.le_refl _) (below_size HB.out); have hl6 := Aside0.mk (blk_lt BK6.out); replace BK6 := kb_ BK6 hb; replace HB := Aside0.mk (below_step oB hb); clear hs hb; obtain ⟨⟨_, _⟩, _, _⟩ := z2 BK6)
  refine bodyPost_ret (results_cell_row rfl _ _ gb6 26 #[.slice A0 r1.length c0, .int .i64 r2] (0, 0) _ rfl (oP BK6) Tryz.underlying26 rfl (by kernel_rfl)) rfl ?_
  exact ⟨_, rfl, Kd.S_mono (Kd.S_far (Kd.S_far HS.out (fun k_ hk => by have := hk.1; have := hl6.out; dsimp only; omega) _) (fun k_ hk => by have := hk.1; have := hl6.out; dsimp only; omega) _) (fun _ _ => trivial), oB⟩
/-! ### impl_Stat: function 28 -/
def impl_Stat.f (k : Nat) (l0_0 : List (S51)) (a0_1 : Int) (a1 : ByteArray) : Option (Int × Int × Int × List Int × (List (S65)) × (List (S71)) × Int) := (impl_Walk.f k l0_0 a0_1 a1).bind fun bt309 => (if bt309.2 = 0 then ((impl_InodeAt.f k l0_0 a0_1 bt309.1).bind fun bt311 => (if bt311.2.2.2.2.2.2 = true then (some (bt311.1, bt311.2.1, bt311.2.2.1, bt311.2.2.2.1, bt311.2.2.2.2.1, bt311.2.2.2.2.2.1, 0)) else (some (0, 0, 0, ([] : List Int), ([] : List (S65)), ([] : List (S71)), 2)))) else (some (0, 0, 0, ([] : List Int), ([] : List (S65)), ([] : List (S71)), bt309.2)))
set_option maxHeartbeats 8000000 in
set_option maxRecDepth 100000 in
theorem impl_Stat.calls (k : Nat) (A0_0 : Option Addr) (c0_0 : Nat) (l0_0 : List (S51)) (a0_1 : Int) (a1 : ByteArray) (r1 : Int) (r2 : Int) (r3 : Int) (r4 : List Int) (r5 : List (S65)) (r6 : List (S71)) (r7 : Int) (w : World) (hr0_0 : Kd.C k51 w A0_0 l0_0.length l0_0) (hc0_0 : l0_0.length ≤ c0_0) (h : impl_Stat.f k l0_0 a0_1 a1 = some (r1, r2, r3, r4, r5, r6, r7)) (hG : GOk w := by exact gk_ oB (by first | (with_reducible assumption) | assumption)) :
  Calls Tryz.prog 28 #[.agg #[.slice A0_0 l0_0.length c0_0, .int .i64 a0_1], .string a1] w fun e w' => ∃ v3_ v4_ v5_ : Value, e = .returned (.tuple #[.agg #[.int .i64 r1, .int .i64 r2, .int .i64 r3, v3_, v4_, v5_], .int .i64 r7]) ∧ Kd.R (Kd.int .u8) 5 w' w.heap.size (fun _ => True) v3_ r4 ∧ Kd.R k65 65 w' w.heap.size (fun _ => True) v4_ r5 ∧ Kd.R k71 71 w' w.heap.size (fun _ => True) v5_ r6 ∧ Below w.heap.size w w' := by
 have HG := Aside0.mk hG
 clear hG
 have hu26 := Tryz.underlying26
 have hu51 := Tryz.underlying51
 have HR0_0 := Aside0.mk hr0_0
 have HC0_0 := Aside0.mk hc0_0
 clear hr0_0 hc0_0
 have HB := Aside0.mk (Below.refl w.heap.size w)
 unfold impl_Stat.f at h
 have H := h
 clear h
 replace H := bA H
 obtain ⟨⟨t309, t310⟩, A3, H⟩ := H
 try dsimp only at H
 by_cases c4 : t310 = 0
 ·rw [if_pos c4] at H
  have c4b0 : (t310 == 0) = true := beq_iff_eq.mpr c4
  have c4b1 : (t310 != 0) = false := bne_eq_false_iff_eq.mpr c4
  clear c4
  replace H := bA H
  obtain ⟨⟨t311, t312, t313, t314, t317, t320, t323⟩, A5, H⟩ := H
  try dsimp only at H
  replace H := itB H
  rcases H with ⟨rfl, H⟩ | ⟨rfl, H⟩
  ·simp only [Option.some.injEq, Prod.mk.injEq] at H
   obtain ⟨rfl, rfl, rfl, rfl, rfl, rfl, rfl⟩ := H
   go_enter Tryz.func28, Tryz.ntmps28
   go_wp2_with (first | ((with_reducible refine gate_dst (N := 2) rfl ?_); refine bx_ 2 #[.slice A0_0 l0_0.length c0_0, .int .i64 a0_1] 26 ?_; intro gb307 hg w7 hbox hb; have BK307 := Aside0.mk (hbox); have GW307 := gs_ hg; replace HB := Aside0.mk (below_step oB hb); clear hb hbox hg) | ((with_reducible refine gate_dst (N := 4) rfl ?_); refine bx_ 4 #[.int .i64 0, .int .i64 0, .int .i64 0, .slice none 0 0, .slice none 0 0, .slice none 0 0] 51 ?_; intro gb308 hg w8 hbox hb; have BK308 := Aside0.mk (hbox); have GW308 := gs_ hg; have NB307_308 := nl_ hg BK307; have NB308_307 := nr_ hg BK307; replace BK307 := kb_ BK307 hb; replace HB := Aside0.mk (below_step oB hb); clear hb hbox hg; have hnb9 := NB307_308.out; have hnc9 := NB308_307.out; obtain ⟨⟨_, _⟩, _, _⟩ := z2 BK307) | ((with_reducible refine gate_callee (f := 31) rfl ?_); refine gl_ 13 Tryz.func31 (impl_Walk.calls k _ _ l0_0 a0_1 a1 t309 t310 _ (kC HR0_0) HC0_0.out A3.out) ?_; rintro e w11 ⟨rfl, hb⟩; refine ⟨_, rfl, ?_⟩; replace BK307 := kb_ BK307 hb; replace BK308 := kb_ BK308 hb; replace HB := Aside0.mk (below_step oB hb); obtain ⟨⟨_, _⟩, _, _⟩ := z2 BK307) | ((with_reducible refine gate_callee (f := 42) rfl ?_); refine gl_ 23 Tryz.func42 (impl_InodeAt.calls k _ _ l0_0 a0_1 t309 t311 t312 t313 t314 t317 t320 true _ (kC HR0_0) HC0_0.out A5.out) ?_; rintro e w13 ⟨v315, v318, v321, rfl, ho0, ho1, ho2, hb⟩; refine ⟨_, rfl, ?_⟩; have HO316 := Aside0.mk (Kd.R_lower ho0 (below_size oB)); have HO319 := Aside0.mk (Kd.R_lower ho1 (below_size oB)); have HO322 := Aside0.mk (Kd.R_lower ho2 (below_size oB)); replace BK307 := kb_ BK307 hb; replace BK308 := kb_ BK308 hb; replace HB := Aside0.mk (below_step oB hb); (try clear ho1); (try clear ho2)) | ((with_reducible refine gate_dst (N := 8) rfl ?_); refine bx_ 8 #[.int .i64 0, .int .i64 0, .int .i64 0, .slice none 0 0, .slice none 0 0, .slice none 0 0] 51 ?_; intro gb324 hg w14 hbox hb; have BK324 := Aside0.mk (hbox); have GW324 := gs_ hg; have NB307_324 := nl_ hg BK307; have NB324_307 := nr_ hg BK307; have NB308_324 := nl_ hg BK308; have NB324_308 := nr_ hg BK308; replace HO316 := kr_ HO316 hb; replace HO319 := kr_ HO319 hb; replace HO322 := kr_ HO322 hb; replace BK307 := kb_ BK307 hb; replace BK308 := kb_ BK308 hb; replace HB := Aside0.mk (below_step oB hb); clear hb hbox hg; have hnb15 := NB324_307.out; have hnc15 := NB307_324.out; have hnb16 := NB324_308.out; have hnc16 := NB308_324.out; obtain ⟨⟨_, _, _, _, _, _⟩, _, _, _, _, _, _⟩ := z6 BK324; obtain ⟨Ao18, co18, eo18⟩ := Kd.R_slice HO316.out; subst eo18; obtain ⟨Ao19, co19, eo19⟩ := Kd.R_slice HO319.out; subst eo19; obtain ⟨Ao20, co20, eo20⟩ := Kd.R_slice HO322.out; subst eo20; obtain ⟨⟨_, _, _, _, _, _⟩, _, _, _, _, _, _⟩ := z6 BK308))
   refine bodyPost_ret (results_ct rfl _ _ gb308 51 #[.int .i64 t311, .int .i64 t312, .int .i64 t313, .slice Ao18 t314.length co18, .slice Ao19 t317.length co19, .slice Ao20 t320.length co20] (0, 0) _ rfl (oP BK308) Tryz.underlying51 rfl (by kernel_rfl)) rfl ?_
   exact ⟨_, _, _, oE, by (with_reducible repeat (first | apply Kd.R_alloc | apply Kd.R_drewN | apply Kd.R_drew)); exact Kd.R_mono (Kd.R_far (p := ⟨gb308, 5, none⟩) (Kd.R_far (p := ⟨gb308, 4, none⟩) (Kd.R_far (p := ⟨gb308, 3, none⟩) (Kd.R_far (p := ⟨gb308, 2, none⟩) (Kd.R_far (p := ⟨gb308, 1, none⟩) (Kd.R_far (p := ⟨gb308, 0, none⟩) (Kd.R_far (p := ⟨gb324, 5, none⟩) (Kd.R_far (p := ⟨gb324, 4, none⟩) (Kd.R_far (p := ⟨gb324, 3, none⟩) (Kd.R_far (p := ⟨gb324, 2, none⟩) (Kd.R_far (p := ⟨gb324, 1, none⟩) (Kd.R_far (p := ⟨gb324, 0, none⟩) (Kd.R_types (Kd.R_types HO316.out BK324.out (by decide)) BK308.out (by decide)) (fun _ hk => hk.1.2) (.int .i64 t311)) (fun _ hk => hk.1.2) (.int .i64 t312)) (fun _ hk => hk.1.2) (.int .i64 t313)) (fun _ hk => hk.1.2) (.slice Ao18 t314.length co18)) (fun _ hk => hk.1.2) (.slice Ao19 t317.length co19)) (fun _ hk => hk.1.2) (.slice Ao20 t320.length co20)) (fun _ hk => hk.2) (.int .i64 t311)) (fun _ hk => hk.2) (.int .i64 t312)) (fun _ hk => hk.2) (.int .i64 t313)) (fun _ hk => hk.2) (.slice Ao18 t314.length co18)) (fun _ hk => hk.2) (.slice Ao19 t317.length co19)) (fun _ hk => hk.2) (.slice Ao20 t320.length co20)) (fun _ hk => trivial), by (with_reducible repeat (first | apply Kd.R_alloc | apply Kd.R_drewN | apply Kd.R_drew)); exact Kd.R_mono (Kd.R_far (p := ⟨gb308, 5, none⟩) (Kd.R_far (p := ⟨gb308, 4, none⟩) (Kd.R_far (p := ⟨gb308, 3, none⟩) (Kd.R_far (p := ⟨gb308, 2, none⟩) (Kd.R_far (p := ⟨gb308, 1, none⟩) (Kd.R_far (p := ⟨gb308, 0, none⟩) (Kd.R_far (p := ⟨gb324, 5, none⟩) (Kd.R_far (p := ⟨gb324, 4, none⟩) (Kd.R_far (p := ⟨gb324, 3, none⟩) (Kd.R_far (p := ⟨gb324, 2, none⟩) (Kd.R_far (p := ⟨gb324, 1, none⟩) (Kd.R_far (p := ⟨gb324, 0, none⟩) (Kd.R_types (Kd.R_types HO319.out BK324.out (by decide)) BK308.out (by decide)) (fun _ hk => hk.1.2) (.int .i64 t311)) (fun _ hk => hk.1.2) (.int .i64 t312)) (fun _ hk => hk.1.2) (.int .i64 t313)) (fun _ hk => hk.1.2) (.slice Ao18 t314.length co18)) (fun _ hk => hk.1.2) (.slice Ao19 t317.length co19)) (fun _ hk => hk.1.2) (.slice Ao20 t320.length co20)) (fun _ hk => hk.2) (.int .i64 t311)) (fun _ hk => hk.2) (.int .i64 t312)) (fun _ hk => hk.2) (.int .i64 t313)) (fun _ hk => hk.2) (.slice Ao18 t314.length co18)) (fun _ hk => hk.2) (.slice Ao19 t317.length co19)) (fun _ hk => hk.2) (.slice Ao20 t320.length co20)) (fun _ hk => trivial), by (with_reducible repeat (first | apply Kd.R_alloc | apply Kd.R_drewN | apply Kd.R_drew)); exact Kd.R_mono (Kd.R_far (p := ⟨gb308, 5, none⟩) (Kd.R_far (p := ⟨gb308, 4, none⟩) (Kd.R_far (p := ⟨gb308, 3, none⟩) (Kd.R_far (p := ⟨gb308, 2, none⟩) (Kd.R_far (p := ⟨gb308, 1, none⟩) (Kd.R_far (p := ⟨gb308, 0, none⟩) (Kd.R_far (p := ⟨gb324, 5, none⟩) (Kd.R_far (p := ⟨gb324, 4, none⟩) (Kd.R_far (p := ⟨gb324, 3, none⟩) (Kd.R_far (p := ⟨gb324, 2, none⟩) (Kd.R_far (p := ⟨gb324, 1, none⟩) (Kd.R_far (p := ⟨gb324, 0, none⟩) (Kd.R_types (Kd.R_types HO322.out BK324.out (by decide)) BK308.out (by decide)) (fun _ hk => hk.1.2) (.int .i64 t311)) (fun _ hk => hk.1.2) (.int .i64 t312)) (fun _ hk => hk.1.2) (.int .i64 t313)) (fun _ hk => hk.1.2) (.slice Ao18 t314.length co18)) (fun _ hk => hk.1.2) (.slice Ao19 t317.length co19)) (fun _ hk => hk.1.2) (.slice Ao20 t320.length co20)) (fun _ hk => hk.2) (.int .i64 t311)) (fun _ hk => hk.2) (.int .i64 t312)) (fun _ hk => hk.2) (.int .i64 t313)) (fun _ hk => hk.2) (.slice Ao18 t314.length co18)) (fun _ hk => hk.2) (.slice Ao19 t317.length co19)) (fun _ hk => hk.2) (.slice Ao20 t320.length co20)) (fun _ hk => trivial), oB⟩
  ·simp only [Option.some.injEq, Prod.mk.injEq] at H
   obtain ⟨rfl, rfl, rfl, rfl, rfl, rfl, rfl⟩ := H
   go_enter Tryz.func28, Tryz.ntmps28
   go_wp2_with (first | ((with_reducible refine gate_dst (N := 2) rfl ?_); refine bx_ 2 #[.slice A0_0 l0_0.length c0_0, .int .i64 a0_1] 26 ?_; intro gb307 hg w22 hbox hb; have BK307 := Aside0.mk (hbox); have GW307 := gs_ hg; replace HB := Aside0.mk (below_step oB hb); clear hb hbox hg) | ((with_reducible refine gate_dst (N := 4) rfl ?_); refine bx_ 4 #[.int .i64 0, .int .i64 0, .int .i64 0, .slice none 0 0, .slice none 0 0, .slice none 0 0] 51 ?_; intro gb308 hg w23 hbox hb; have BK308 := Aside0.mk (hbox); have GW308 := gs_ hg; have NB307_308 := nl_ hg BK307; have NB308_307 := nr_ hg BK307; replace BK307 := kb_ BK307 hb; replace HB := Aside0.mk (below_step oB hb); clear hb hbox hg; have hnb24 := NB307_308.out; have hnc24 := NB308_307.out; obtain ⟨⟨_, _⟩, _, _⟩ := z2 BK307) | ((with_reducible refine gate_callee (f := 31) rfl ?_); refine gl_ 13 Tryz.func31 (impl_Walk.calls k _ _ l0_0 a0_1 a1 t309 t310 _ (kC HR0_0) HC0_0.out A3.out) ?_; rintro e w26 ⟨rfl, hb⟩; refine ⟨_, rfl, ?_⟩; replace BK307 := kb_ BK307 hb; replace BK308 := kb_ BK308 hb; replace HB := Aside0.mk (below_step oB hb); obtain ⟨⟨_, _⟩, _, _⟩ := z2 BK307) | ((with_reducible refine gate_callee (f := 42) rfl ?_); refine gl_ 23 Tryz.func42 (impl_InodeAt.calls k _ _ l0_0 a0_1 t309 t311 t312 t313 t314 t317 t320 false _ (kC HR0_0) HC0_0.out A5.out) ?_; rintro e w28 ⟨v315, v318, v321, rfl, ho0, ho1, ho2, hb⟩; refine ⟨_, rfl, ?_⟩; have HO316 := Aside0.mk (Kd.R_lower ho0 (below_size oB)); have HO319 := Aside0.mk (Kd.R_lower ho1 (below_size oB)); have HO322 := Aside0.mk (Kd.R_lower ho2 (below_size oB)); replace BK307 := kb_ BK307 hb; replace BK308 := kb_ BK308 hb; replace HB := Aside0.mk (below_step oB hb); (try clear ho1); (try clear ho2)) | ((with_reducible refine gate_dst (N := 8) rfl ?_); refine bx_ 8 #[.int .i64 0, .int .i64 0, .int .i64 0, .slice none 0 0, .slice none 0 0, .slice none 0 0] 51 ?_; intro gb324 hg w29 hbox hb; have BK324 := Aside0.mk (hbox); have GW324 := gs_ hg; have NB307_324 := nl_ hg BK307; have NB324_307 := nr_ hg BK307; have NB308_324 := nl_ hg BK308; have NB324_308 := nr_ hg BK308; replace HO316 := kr_ HO316 hb; replace HO319 := kr_ HO319 hb; replace HO322 := kr_ HO322 hb; replace BK307 := kb_ BK307 hb; replace BK308 := kb_ BK308 hb; replace HB := Aside0.mk (below_step oB hb); clear hb hbox hg; have hnb30 := NB324_307.out; have hnc30 := NB307_324.out; have hnb31 := NB324_308.out; have hnc31 := NB308_324.out; obtain ⟨⟨_, _, _, _, _, _⟩, _, _, _, _, _, _⟩ := z6 BK324; obtain ⟨Ao33, co33, eo33⟩ := Kd.R_slice HO316.out; subst eo33; obtain ⟨Ao34, co34, eo34⟩ := Kd.R_slice HO319.out; subst eo34; obtain ⟨Ao35, co35, eo35⟩ := Kd.R_slice HO322.out; subst eo35; obtain ⟨⟨_, _, _, _, _, _⟩, _, _, _, _, _, _⟩ := z6 BK308))
   refine bodyPost_ret (results_ct rfl _ _ gb308 51 #[.int .i64 0, .int .i64 0, .int .i64 0, .slice none 0 0, .slice none 0 0, .slice none 0 0] (0, 0) _ rfl (oP BK308) Tryz.underlying51 rfl (by kernel_rfl)) rfl ?_
   exact ⟨_, _, _, oE, by first | exact Kd.R_nil _ _ _ _ _ | exact Kd.N_nil _ _ _ _ _ | exact Kd.V_nil _ _ _ _ _ | exact Kd.Q_nil _ _ _ _ _ | exact Kd.S_nil _ _ _ _ _, by first | exact Kd.R_nil _ _ _ _ _ | exact Kd.N_nil _ _ _ _ _ | exact Kd.V_nil _ _ _ _ _ | exact Kd.Q_nil _ _ _ _ _ | exact Kd.S_nil _ _ _ _ _, by first | exact Kd.R_nil _ _ _ _ _ | exact Kd.N_nil _ _ _ _ _ | exact Kd.V_nil _ _ _ _ _ | exact Kd.Q_nil _ _ _ _ _ | exact Kd.S_nil _ _ _ _ _, oB⟩
 ·rw [if_neg c4] at H
  have c4b0 : (t310 == 0) = false := beq_eq_false_iff_ne.mpr c4
  have c4b1 : (t310 != 0) = true := bne_iff_ne.mpr c4
  simp only [Option.some.injEq, Prod.mk.injEq] at H
  obtain ⟨rfl, rfl, rfl, rfl, rfl, rfl, rfl⟩ := H
  go_enter Tryz.func28, Tryz.ntmps28
  go_wp2_with (first | ((with_reducible refine gate_dst (N := 2) rfl ?_); refine bx_ 2 #[.slice A0_0 l0_0.length c0_0, .int .i64 a0_1] 26 ?_; intro gb307 hg w37 hbox hb; have BK307 := Aside0.mk (hbox); have GW307 := gs_ hg; replace HB := Aside0.mk (below_step oB hb); clear hb hbox hg) | ((with_reducible refine gate_dst (N := 4) rfl ?_); refine bx_ 4 #[.int .i64 0, .int .i64 0, .int .i64 0, .slice none 0 0, .slice none 0 0, .slice none 0 0] 51 ?_; intro gb308 hg w38 hbox hb; have BK308 := Aside0.mk (hbox); have GW308 := gs_ hg; have NB307_308 := nl_ hg BK307; have NB308_307 := nr_ hg BK307; replace BK307 := kb_ BK307 hb; replace HB := Aside0.mk (below_step oB hb); clear hb hbox hg; have hnb39 := NB307_308.out; have hnc39 := NB308_307.out; obtain ⟨⟨_, _⟩, _, _⟩ := z2 BK307) | ((with_reducible refine gate_callee (f := 31) rfl ?_); refine gl_ 13 Tryz.func31 (impl_Walk.calls k _ _ l0_0 a0_1 a1 t309 t310 _ (kC HR0_0) HC0_0.out A3.out) ?_; rintro e w41 ⟨rfl, hb⟩; refine ⟨_, rfl, ?_⟩; replace BK307 := kb_ BK307 hb; replace BK308 := kb_ BK308 hb; replace HB := Aside0.mk (below_step oB hb); obtain ⟨⟨_, _, _, _, _, _⟩, _, _, _, _, _, _⟩ := z6 BK308))
  refine bodyPost_ret (results_ct rfl _ _ gb308 51 #[.int .i64 0, .int .i64 0, .int .i64 0, .slice none 0 0, .slice none 0 0, .slice none 0 0] (0, 0) _ rfl (oP BK308) Tryz.underlying51 rfl (by kernel_rfl)) rfl ?_
  exact ⟨_, _, _, oE, by first | exact Kd.R_nil _ _ _ _ _ | exact Kd.N_nil _ _ _ _ _ | exact Kd.V_nil _ _ _ _ _ | exact Kd.Q_nil _ _ _ _ _ | exact Kd.S_nil _ _ _ _ _, by first | exact Kd.R_nil _ _ _ _ _ | exact Kd.N_nil _ _ _ _ _ | exact Kd.V_nil _ _ _ _ _ | exact Kd.Q_nil _ _ _ _ _ | exact Kd.S_nil _ _ _ _ _, by first | exact Kd.R_nil _ _ _ _ _ | exact Kd.N_nil _ _ _ _ _ | exact Kd.V_nil _ _ _ _ _ | exact Kd.Q_nil _ _ _ _ _ | exact Kd.S_nil _ _ _ _ _, oB⟩

end Go.Proofs.YtkcfmbggdkkfeaaGreatDoor.P
