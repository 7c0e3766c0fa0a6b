-- By this session's own program (wip/myprint.py) out of the translation; Lean checks it.
import Derived.Test.YtkcfmbggdkkfeaaGreatDoorPx0
import Derived.Test.YtkcfmbggdkkfeaaGreatDoorPx2
import Derived.Test.YtkcfmbggdkkfeaaGreatDoorPx3
import Derived.Test.YtkcfmbggdkkfeaaGreatDoorPx6
namespace Go.Proofs.YtkcfmbggdkkfeaaGreatDoor.P
open Go.RowKit Go.Proofs.YtkcfmbggdkkfeaaGreatDoorW.PrintWords Go.Proofs.YtkcfmbggdkkfeaaGreatDoorW.PrintLast Go.Proofs.YtkcfmbggdkkfeaaGreatDoorW.PrintMore
attribute [local go_sem] max2_int min2_int max_two min_two max_three min_three max_four min_four   -- for this text's walks alone
set_option linter.unusedVariables false
set_option linter.unusedSimpArgs false

/-! ### impl_DropInode: function 61 -/
theorem sOpen {α : Type} {d : Kd α} {e : Nat} {W : World} {base : Nat} {ok : Nat → Prop} {g n cap : Nat} {xs : List α} (h : Kd.S d e W base ok (.slice (some ⟨g, 0, none⟩) n cap) xs) :
  ∃ (rows : List (List Value)) (f : Nat → Nat), rows.length = xs.length ∧ (Kd.raw d.sz).R e W base (fun k => k = g) (.slice (some ⟨g, 0, none⟩) n cap) rows ∧ ok g ∧
   ∀ (q : Nat) (x : α), xs[q]? = some x → d.M W base (fun k => (ok k ∧ k ≠ g) ∧ f k = q) x (rows.getD q []) := by
 obtain ⟨f, hok0, inner, ho, hr⟩ := h
 have hgo : some g = (Value.slice (some ⟨g, 0, none⟩) n cap).ownBlock := by simp [Value.ownBlock]
 have hlen : inner.length = xs.length * d.sz := by have := hr.1; rw [List.length_zipIdx] at this; exact this
 have hM : ∀ (q : Nat) (x : α), xs[q]? = some x → d.M W base (fun k => (ok k ∧ k ≠ g) ∧ f k = q) x ((inner.drop (q * d.sz)).take d.sz) := fun q x hx =>
  d.M_mono (fun k hk => ⟨⟨hk.1.1, fun he => hk.1.2 (by rw [he]; exact hgo)⟩, hk.2⟩) (hr.2 q (x, q) (Kd.zip_at hx))
 have hrow : ∀ q, q < xs.length → ((List.range xs.length).map fun j => (inner.drop (j * d.sz)).take d.sz)[q]? = some ((inner.drop (q * d.sz)).take d.sz) := fun q hq => by
  rw [List.getElem?_map, List.getElem?_range hq]; rfl
 refine ⟨(List.range xs.length).map fun j => (inner.drop (j * d.sz)).take d.sz, f, by rw [List.length_map, List.length_range], ⟨fun k hk => ?_, inner, ?_, ?_, fun j p hj => ?_⟩, hok0 g hgo.symm, fun q x hx => ?_⟩
 ·rw [← hgo] at hk; injection hk with hk; exact hk.symm
 ·rw [List.length_map, List.length_range]; rw [List.length_zipIdx] at ho; exact ho
 ·rw [List.length_map, List.length_range]; exact hlen
 ·rw [List.getElem?_map] at hj
  obtain ⟨j', hj', rfl⟩ := Option.map_eq_some_iff.1 hj
  obtain ⟨hl, he⟩ := List.getElem?_eq_some_iff.1 hj'
  rw [List.getElem_range] at he
  subst he
  rw [List.length_range] at hl
  have hm := d.K_of_M (hM j _ (List.getElem?_eq_getElem hl))
  exact ⟨rfl, d.K_len hm, d.K_one hm⟩
 ·have hq : q < xs.length := (List.getElem?_eq_some_iff.1 hx).1
  rw [List.getD_eq_getElem?_getD, hrow q hq]
  exact hM q x hx
theorem sShut {α : Type} {d : Kd α} {e : Nat} {W W1 : World} {base : Nat} {ok okr : Nat → Prop} {g m cap : Nat} {xs : List α} {rows rows' : List (List Value)} {f : Nat → Nat} {ids : List Nat} (z : α)
  (hraw : (Kd.raw d.sz).R e W1 base okr (.slice (some ⟨g, 0, none⟩) m cap) rows') (hnd : ids.Nodup) (hids : ∀ q ∈ ids, q < xs.length) (hrows : rows' = ids.map (fun q => rows.getD q []))
  (hM : ∀ (q : Nat) (x : α), xs[q]? = some x → d.M W base (fun k => (ok k ∧ k ≠ g) ∧ f k = q) x (rows.getD q []))
  (hmove : ∀ k, k ≠ g → k < W.heap.size → W1.heap[k]? = W.heap[k]?) (hg : ok g) : Kd.S d e W1 base ok (.slice (some ⟨g, 0, none⟩) m cap) (ids.map fun q => xs.getD q z) := by
 subst hrows
 obtain ⟨_, inner, ho, hr⟩ := hraw
 have hgo : some g = (Value.slice (some ⟨g, 0, none⟩) m cap).ownBlock := by simp [Value.ownBlock]
 refine ⟨fun k => ids.idxOf (f k), fun k hk => ?_, inner, ?_, ?_, fun j p hj => ?_⟩
 ·rw [← hgo] at hk; injection hk with hk; exact hk ▸ hg
 ·rw [List.length_zipIdx, List.length_map]; rw [List.length_map] at ho; exact ho
 ·rw [List.length_zipIdx, List.length_map]; have := hr.1; rw [List.length_map] at this; exact this
 ·rw [List.getElem?_zipIdx, Nat.zero_add] at hj
  obtain ⟨y, hy, rfl⟩ := Option.map_eq_some_iff.1 hj
  rw [List.getElem?_map] at hy
  obtain ⟨q, hq, rfl⟩ := Option.map_eq_some_iff.1 hy
  obtain ⟨hjl, hjq⟩ := List.getElem?_eq_some_iff.1 hq
  have hql := hids q (List.mem_of_getElem? hq)
  have hrw := (hr.2 j (rows.getD q []) (by rw [List.getElem?_map, hq]; rfl)).1
  show d.M W1 base _ (xs.getD q z) ((inner.drop (j * d.sz)).take d.sz)
  rw [show (inner.drop (j * d.sz)).take d.sz = rows.getD q [] from hrw]
  have hx : xs[q]? = some (xs.getD q z) := by rw [List.getD_eq_getElem?_getD, List.getElem?_eq_getElem hql]; rfl
  refine d.M_mono (fun k hk => ⟨⟨hk.1.1.1, fun he => hk.1.1.2 (by rw [← hgo] at he; injection he)⟩, ?_⟩) (d.M_move (w1 := W1) (fun k hk => hmove k hk.1.1.2 hk.2.2.1) (d.M_bound (hM q _ hx)))
  show ids.idxOf (f k) = j
  rw [hk.1.2, ← hjq]
  exact hnd.idxOf_getElem j hjl
def dropR (ino : Int) : List S51 → Nat → Int
 | [], _ => -1
 | x :: l, i => if x.f0 = ino then (i : Int) else dropR ino l (i + 1)
theorem dropOf1.calls (ino a b c : Int) (A3 A4 A5 : Option Addr) (n3 c3 n4 c4 n5 c5 : Nat) (B : Nat) (W : World) (hB : B < W.heap.size) (hc : W.cell? ⟨B, 0, none⟩ = some (.int .i64 ino)) :
  Calls Tryz.prog 86 #[.agg #[.int .i64 a, .int .i64 b, .int .i64 c, .slice A3 n3 c3, .slice A4 n4 c4, .slice A5 n5 c5], .pointer (some ⟨B, 0, none⟩)] W fun e w' => e = .returned (.bool (a == ino)) ∧ Below W.heap.size W w' := by
 have hne : B ≠ W.heap.size := by omega
 go_enter Tryz.func86, Tryz.ntmps86
 go_wp2
 all_goals (go_ret; exact ⟨by simp_all, (Below.refl _ W).alloc (Nat.le_refl _) _⟩)
theorem dropR_none (ino : Int) (l : List S51) (i : Nat) (h : ∀ x ∈ l, x.f0 ≠ ino) : dropR ino l i = -1 := by
 induction l generalizing i with
 | nil => rfl
 | cons x l ih => rw [dropR, if_neg (h x (List.mem_cons_self ..))]; exact ih (i + 1) (fun y hy => h y (List.mem_cons_of_mem _ hy))
theorem drd_at (l : List S51) (k : Nat) (h : k < l.length) : rd_T51 l (k : Int) = l[k] := by
 simp [rd_T51, List.getD_eq_getElem?_getD, List.getElem?_eq_getElem h]
theorem dropR_hit (ino : Int) (l : List S51) (k j : Nat) (h : k < l.length) (hit : (rd_T51 l (k : Int)).f0 = ino) : dropR ino (l.drop k) j = (j : Int) := by
 rw [List.drop_eq_getElem_cons h, dropR, if_pos (by rw [← drd_at l k h]; exact hit)]
theorem dropR_miss (ino : Int) (l : List S51) (k j : Nat) (h : k < l.length) (hit : (rd_T51 l (k : Int)).f0 ≠ ino) : dropR ino (l.drop k) j = dropR ino (l.drop (k + 1)) (j + 1) := by
 rw [List.drop_eq_getElem_cons h, dropR, if_neg (by rw [← drd_at l k h]; exact hit)]
set_option maxHeartbeats 400000 in
set_option maxRecDepth 100000 in
theorem dropOf2.calls (ino : Int) (A0 : Option Addr) (c0 : Nat) (l : List S51) (B : Nat) (w : World) (hr : k51.C w A0 l.length l) (hB : B < w.heap.size) (hc : w.cell? ⟨B, 0, none⟩ = some (.int .i64 ino)) (hl : l.length ≤ 9223372036854775807) :
  Calls Tryz.prog 69 #[.slice A0 l.length c0, .func (.func 86) #[] #[.pointer (some ⟨B, 0, none⟩)]] w fun e w' => e = .returned (.int .i64 (dropR ino l 0)) ∧ Below w.heap.size w w' := by
 go_enter Tryz.func69, Tryz.ntmps69
 go_wp2
 go_loopg [5, 8] l.length (fun gg _ s8 wr => ∃ kk : Nat, kk ≤ l.length ∧ l.length - kk ≤ gg ∧ s8 = .int .i64 kk ∧ Aside0 (Below w.heap.size w wr) ∧ Aside0 (dropR ino l 0 = dropR ino (l.drop kk) kk))
 case atStart => exact ⟨0, Nat.zero_le _, by omega, rfl, ⟨Below.refl _ w⟩, ⟨rfl⟩⟩
 case round =>
  obtain ⟨kk, hkk, hg, rfl, BW, A⟩ := hrel
  by_cases hlt : kk < l.length
  ·have hltz : (kk : Int) < (l.length : Int) := by omega
   obtain ⟨ad, A3, c3, A4, c4, A5, c5, e0, h0, h1, h2, h3, h4, h5, _⟩ := at_T51 (Kd.C_below hr BW.out) (kk : Int) (by omega) hltz
   cases e0
   rw [Int.toNat_natCast] at h0 h1 h2 h3 h4 h5
   have hBw : B < wr.heap.size := Nat.lt_of_lt_of_le hB BW.out.size
   have hcw : wr.cell? ⟨B, 0, none⟩ = some (.int .i64 ino) := (BW.out.cell (p := ⟨B, 0, none⟩) hB).trans hc
   by_cases hit : (rd_T51 l (kk : Int)).f0 = ino
   ·have hq : ((rd_T51 l (kk : Int)).f0 == ino) = true := by simpa using hit
    go_wp2_with (go_at_call 86; refine (dropOf1.calls ino _ _ _ _ _ _ _ _ _ _ _ _ B wr hBw hcw).mono ?_; rintro e w' ⟨rfl, hb'⟩)
    go_ret
    exact ⟨by rw [A.out, dropR_hit ino l kk kk hlt hit]; rfl, below_then BW.out BW.out.size hb'⟩
   ·have hq : ((rd_T51 l (kk : Int)).f0 == ino) = false := by simpa using hit
    go_wp2_with (go_at_call 86; refine (dropOf1.calls ino _ _ _ _ _ _ _ _ _ _ _ _ B wr hBw hcw).mono ?_; rintro e w' ⟨rfl, hb'⟩)
    go_roundg (l.length - (kk + 1))
    case measure => omega
    case rel => exact ⟨kk + 1, by omega, by omega, by go_num, ⟨below_then BW.out BW.out.size hb'⟩, ⟨by rw [A.out, dropR_miss ino l kk kk hlt hit]⟩⟩
  ·have hltz : ¬ (kk : Int) < (l.length : Int) := by omega
   obtain rfl : kk = l.length := by omega
   go_wp2
   go_ret
   exact ⟨by rw [A.out, List.drop_length]; rfl, BW.out⟩
def keepQ (ino : Int) (l : List S51) (q : Nat) : Bool := !decide ((rd_T51 l (q : Int)).f0 = ino)
def dropL (ino : Int) (l : List S51) : List S51 := l.filter fun x => !decide (x.f0 = ino)
theorem range_getD {α : Type} (l : List α) (z : α) (i : Nat) (h : i ≤ l.length) : (List.range i).map (fun q => l.getD q z) = l.take i := by
 apply List.ext_getElem?
 intro j
 rw [List.getElem?_map, List.getElem?_take]
 by_cases hj : j < i
 ·rw [List.getElem?_range hj, if_pos hj, List.getElem?_eq_getElem (by omega)]
  simp [List.getD_eq_getElem?_getD, List.getElem?_eq_getElem (show j < l.length by omega)]
 ·rw [if_neg hj, List.getElem?_eq_none (by simpa using hj)]; rfl
theorem dropL_ids (ino : Int) (l : List S51) : ((List.range l.length).filter (keepQ ino l)).map (fun q => l.getD q z51) = dropL ino l := by
 have h := range_getD l z51 l.length (Nat.le_refl _)
 rw [List.take_length] at h
 unfold dropL
 conv => rhs; rw [← h]
 rw [List.filter_map]
 rfl
theorem dropR_spec (ino : Int) (l : List S51) : ∀ j : Nat, (dropR ino l j = -1 ∧ ∀ x ∈ l, x.f0 ≠ ino) ∨ ∃ i : Nat, dropR ino l j = ((j + i : Nat) : Int) ∧ ∃ h : i < l.length, l[i].f0 = ino ∧ ∀ (q : Nat) (hq : q < i), l[q].f0 ≠ ino := by
 induction l with
 | nil => intro j; exact .inl ⟨rfl, by simp⟩
 | cons x l ih =>
  intro j
  rw [dropR]
  by_cases c : x.f0 = ino
  ·rw [if_pos c]
   exact .inr ⟨0, by simp, by simp, c, fun q hq => by omega⟩
  ·rw [if_neg c]
   rcases ih (j + 1) with ⟨h1, h2⟩ | ⟨i, h1, h2, h3, h4⟩
   ·left
    refine ⟨h1, fun y hy => ?_⟩
    rcases List.mem_cons.1 hy with rfl | hy
    ·exact c
    ·exact h2 y hy
   ·right
    refine ⟨i + 1, by rw [h1]; congr 1; omega, by simpa using h2, by simpa using h3, fun q hq => ?_⟩
    cases q with
    | zero => exact c
    | succ q => exact h4 q (by omega)
theorem keepQ_at (ino : Int) (l : List S51) (q : Nat) (h : q < l.length) : keepQ ino l q = !decide (l[q].f0 = ino) := by
 unfold keepQ; rw [drd_at l q h]
theorem ids_start (ino : Int) (l : List S51) (i : Nat) (h : i < l.length) (h1 : l[i].f0 = ino) (h2 : ∀ (q : Nat) (hq : q < i), l[q].f0 ≠ ino) : (List.range (i + 1)).filter (keepQ ino l) = List.range i := by
 rw [List.range_succ, List.filter_append, List.filter_cons_of_neg (by rw [keepQ_at ino l i h]; simp [h1]), List.filter_nil, List.append_nil]
 exact List.filter_eq_self.2 (fun q hq => by
  have hq := List.mem_range.1 hq
  rw [keepQ_at ino l q (by omega)]
  simpa using h2 q hq)
theorem ids_step (ino : Int) (l : List S51) (j : Nat) : (List.range (j + 1)).filter (keepQ ino l) = (List.range j).filter (keepQ ino l) ++ (if keepQ ino l j = true then [j] else []) := by
 rw [List.range_succ, List.filter_append]
 congr 1
 by_cases c : keepQ ino l j = true
 ·rw [if_pos c, List.filter_cons_of_pos c, List.filter_nil]
 ·rw [if_neg c, List.filter_cons_of_neg c, List.filter_nil]
theorem dropL_all (ino : Int) (l : List S51) (h : ∀ x ∈ l, x.f0 ≠ ino) : dropL ino l = l := List.filter_eq_self.2 (fun x hx => by simpa using h x hx)
def zInode : Value := .agg #[.int .i64 0, .int .i64 0, .int .i64 0, .slice none 0 0, .slice none 0 0, .slice none 0 0]
theorem zInode_run (w : World) : (zeroValue 51).run Tryz.prog w = .ok zInode w := by kernel_rfl
set_option maxHeartbeats 2000000 in
set_option maxRecDepth 100000 in
theorem deleteFunc.calls (ino : Int) (A0 : Option Addr) (c0 : Nat) (l : List S51) (B : Nat) (P0 : Nat → Prop) (w0 w : World) (hB : Below w0.heap.size w0 w) (hS : Kd.S k51 51 w w0.heap.size P0 (.slice A0 l.length c0) l) (hBl : B < w.heap.size) (hc : w.cell? ⟨B, 0, none⟩ = some (.int .i64 ino)) (hne : ¬ P0 B) (hl : l.length ≤ 9223372036854775807) :
  Calls Tryz.prog 85 #[.slice A0 l.length c0, .func (.func 86) #[] #[.pointer (some ⟨B, 0, none⟩)]] w fun e w' => e = .returned (.slice A0 (dropL ino l).length c0) ∧ Kd.S k51 51 w' w0.heap.size P0 (.slice A0 (dropL ino l).length c0) (dropL ino l) ∧ Below w0.heap.size w0 w' ∧ Kept w w' P0 := by
 have hr := (Kd.S_reads' hS).2.2
 have HS := Aside0.mk hS
 have HB := Aside0.mk hB
 have HW := Aside0.mk hB.size
 have HN := Aside0.mk hne
 have hcall := dropOf2.calls ino A0 c0 l B w hr hBl hc hl
 clear hS hB hne hr
 rcases dropR_spec ino l 0 with ⟨hp, hall⟩ | ⟨i0, hp, hi0, hhit, hbef⟩
 ·rw [hp] at hcall
  have HC := Aside0.mk hcall
  have HD := Aside0.mk (dropL_all ino l hall)
  clear hcall hc hall hp
  go_enter Tryz.func85, Tryz.ntmps85
  go_wp2_with (go_at_call 69; refine HC.out.mono ?_; rintro e w1 ⟨rfl, hb⟩)
  go_ret
  rw [HD.out]
  exact ⟨rfl, Kd.S_below HS.out hb, below_then HB.out HW.out hb, Kept.of_below hb _⟩
 ·rw [Nat.zero_add] at hp
  rw [hp] at hcall
  have HC := Aside0.mk hcall
  have hids := ids_start ino l i0 hi0 hhit hbef
  obtain ⟨g, cap, ev, gb, _, _⟩ := Kd.S_form HS.out (by omega)
  injection ev with ea en ec
  subst ea
  clear en
  subst ec
  obtain ⟨rows, f, hrl, hraw, hPg, hM⟩ := sOpen HS.out
  have HM := Aside0.mk hM
  have HP := Aside0.mk hPg
  have hBg : B ≠ g := fun he => HN.out (he ▸ hPg)
  have HR := Aside0.mk hraw
  have HI := Aside0.mk (⟨by rw [hids, List.length_range]; omega, by rw [hids, List.length_range, ← range_getD rows [] i0 (by omega)], hrl⟩ : ((List.range (i0 + 1)).filter (keepQ ino l)).length < i0 + 1 ∧ rows.take ((List.range (i0 + 1)).filter (keepQ ino l)).length = ((List.range (i0 + 1)).filter (keepQ ino l)).map (fun q => rows.getD q []) ∧ rows.length = l.length)
  have hil : ((List.range (i0 + 1)).filter (keepQ ino l)).length = i0 := by rw [hids, List.length_range]
  have HG := Aside0.mk gb
  have HCC := Aside0.mk hc
  clear hcall hc hhit hbef hp hids hraw hM hPg gb
  go_enter Tryz.func85, Tryz.ntmps85
  go_wp2_with (go_at_call 69; refine HC.out.mono ?_; rintro e w1 ⟨rfl, hb⟩)
  replace HR := Aside0.mk (Kd.R_below HR.out hb)
  have HK := Aside0.mk (Kept.of_below hb (fun k => k = g))
  replace HB := Aside0.mk (below_then HB.out HW.out hb)
  clear hb HC
  go_loopg [5, 6] l.length (fun gg s5 s6 wr => ∃ (jj : Nat) (rws : List (List Value)), jj ≤ l.length ∧ l.length - jj ≤ gg ∧ s5 = .int .i64 ((List.range jj).filter (keepQ ino l)).length ∧ s6 = .int .i64 jj ∧ Aside0 (((List.range jj).filter (keepQ ino l)).length < jj ∧ rws.take ((List.range jj).filter (keepQ ino l)).length = ((List.range jj).filter (keepQ ino l)).map (fun q => rows.getD q []) ∧ rws.length = l.length) ∧ Aside0 (rws.drop jj = rows.drop jj) ∧ Aside0 ((Kd.raw k51.sz).R 51 wr w0.heap.size (fun k => k = g) (.slice (some ⟨g, 0, none⟩) l.length c0) rws) ∧ Aside0 (Below w0.heap.size w0 wr) ∧ Aside0 (Kept w wr (fun k => k = g)))
  case atStart => exact ⟨i0 + 1, rows, by omega, by omega, by rw [hil], by go_num, HI, ⟨rfl⟩, HR, HB, HK⟩
  case round =>
   clear HR HB HK HI hil
   obtain ⟨jj, rws, hjj, hgg, rfl, rfl, HI, HD, HR, HB, HK⟩ := hrel
   by_cases hlt : jj < l.length
   ·have hltz : (jj : Int) < (l.length : Int) := by omega
    have hnn : (0 : Int) ≤ (jj : Int) := by omega
    have hM := HM.out jj l[jj] (List.getElem?_eq_getElem hlt)
    obtain ⟨v3, v4, v5, hcs, g3, g4, g5⟩ := k51_openM hM
    obtain ⟨A3, b3, rfl⟩ := Kd.R_slice g3
    obtain ⟨A4, b4, rfl⟩ := Kd.R_slice g4
    obtain ⟨A5, b5, rfl⟩ := Kd.R_slice g5
    clear hM g3 g4 g5
    have hjr : rws.getD jj [] = rows.getD jj [] := by
     have := congrArg (fun L => L.getD 0 []) HD.out
     simpa [List.getD_eq_getElem?_getD, List.getElem?_drop] using this
    obtain ⟨c, hcl, hcm, hcc, hcf⟩ := Kd.R_elem HR.out [] (jj : Int) hnn hltz
    have hce : c = [.int .i64 l[jj].f0, .int .i64 l[jj].f1, .int .i64 l[jj].f2, .slice A3 l[jj].f3.length b3, .slice A4 l[jj].f4.length b4, .slice A5 l[jj].f5.length b5] := by
     have := hcm.1
     rw [Int.toNat_natCast, hjr, hcs] at this
     exact this
    have hone := hcm.2.2
    subst hce
    have c0_ : wr.cell? ⟨g, jj * 6, none⟩ = some (.int .i64 l[jj].f0) := hcc 0 _ rfl
    have c1_ : wr.cell? ⟨g, jj * 6 + 1, none⟩ = some (.int .i64 l[jj].f1) := hcc 1 _ rfl
    have c2_ : wr.cell? ⟨g, jj * 6 + 2, none⟩ = some (.int .i64 l[jj].f2) := hcc 2 _ rfl
    have c3_ : wr.cell? ⟨g, jj * 6 + 3, none⟩ = some (.slice A3 l[jj].f3.length b3) := hcc 3 _ rfl
    have c4_ : wr.cell? ⟨g, jj * 6 + 4, none⟩ = some (.slice A4 l[jj].f4.length b4) := hcc 4 _ rfl
    have c5_ : wr.cell? ⟨g, jj * 6 + 5, none⟩ = some (.slice A5 l[jj].f5.length b5) := hcc 5 _ rfl
    have hgs := Kd.R_lt HR.out g (by simp [Value.ownBlock])
    have hBw : B < wr.heap.size := Nat.lt_of_lt_of_le hBl HK.out.1
    have hcw : ∀ o, (wr.alloc o).cell? ⟨B, 0, none⟩ = some (.int .i64 ino) := fun o => cB (W := wr.alloc o) ⟨below_alloc (Below.refl _ _) o⟩ (cell_kept HCC.out HK.out hBg)
    have HJ := Aside0.mk hjr
    have HCS := Aside0.mk hcs
    have HONE := Aside0.mk hone
    clear hcm hcc hcf hcl hone hjr hcs
    have hst := ids_step ino l jj
    have hIx := HI.out
    obtain ⟨hmj, htk, hrwl⟩ := hIx
    by_cases hk : l[jj].f0 = ino
    ·have hq : (l[jj].f0 == ino) = true := by simpa using hk
     rw [if_neg (by rw [keepQ_at ino l jj hlt]; simp [hk]), List.append_nil] at hst
     have HST := Aside0.mk hst
     clear hk hst htk hmj hrwl
     go_wp2_with (go_at_call 86; refine (dropOf1.calls ino _ _ _ _ _ _ _ _ _ _ _ _ B _ (by simp only [World.size_alloc]; omega) (hcw _)).mono ?_; rintro e w2 ⟨rfl, hb⟩; rw [hq])
     go_roundg (l.length - (jj + 1))
     case measure => omega
     case rel =>
      have hb2 := bold hb
      refine ⟨jj + 1, rws, by omega, by omega, by rw [HST.out], by go_num, ⟨?_⟩, ⟨?_⟩, ⟨Kd.R_below HR.out hb2⟩, ⟨below_then HB.out HB.out.size hb2⟩, ⟨Kept.below HK.out hb2⟩⟩
      ·rw [HST.out]; have := HI.out; exact ⟨by omega, this.2⟩
      ·have := congrArg (fun L => L.drop 1) HD.out
       simpa [List.drop_drop, Nat.add_comm] using this
    ·have hq : (l[jj].f0 == ino) = false := by simpa using hk
     rw [if_pos (by rw [keepQ_at ino l jj hlt]; simp [hk])] at hst
     have HST := Aside0.mk hst
     generalize hm : ((List.range jj).filter (keepQ ino l)).length = m at hmj htk ⊢
     have HTK := Aside0.mk htk
     have hml : (m : Int) < (l.length : Int) := by omega
     have hm0 : (0 : Int) ≤ (m : Int) := by omega
     clear hk hst htk
     go_wp2_with (first
      | (go_at_call 86; refine (dropOf1.calls ino _ _ _ _ _ _ _ _ _ _ _ _ B _ (by simp only [World.size_alloc]; omega) (hcw _)).mono ?_; rintro e w2 ⟨rfl, hb⟩; rw [hq]; have KV := bnew hb; replace hb := bold hb; have zv := z6 KV; have HR2 := Aside0.mk (Kd.R_below HR.out hb); have HB2 := Aside0.mk (below_then HB.out HB.out.size hb); have HK2 := Aside0.mk (Kept.below HK.out hb))
      | ((with_reducible refine gate_store (t := 51) (p := 33) rfl ?_); obtain ⟨c', hcl', hcm', hcc', _⟩ := Kd.R_elem HR2.out [] (m : Int) hm0 hml; refine Kd.R_store (Kd.raw k51.sz) w0.heap.size rfl rfl 51 (.tmp 33) (.tmp 32) rfl 51 (m : Int) 0 rws [.int .i64 l[jj].f0, .int .i64 l[jj].f1, .int .i64 l[jj].f2, .slice A3 l[jj].f3.length b3, .slice A4 l[jj].f4.length b4, .slice A5 l[jj].f5.length b5] (.agg [.int .i64 l[jj].f0, .int .i64 l[jj].f1, .int .i64 l[jj].f2, .slice A3 l[jj].f3.length b3, .slice A4 l[jj].f4.length b4, .slice A5 l[jj].f5.length b5].toArray) [.int .i64 l[jj].f0, .int .i64 l[jj].f1, .int .i64 l[jj].f2, .slice A3 l[jj].f3.length b3, .slice A4 l[jj].f4.length b4, .slice A5 l[jj].f5.length b5] c' (fun k => k = g) (fun _ => False) rfl (by simp; rfl) rfl rfl (by kernel_rfl) HONE.out HR2.out hm0 hml hcl' hcc' (Nat.le_refl _) ?_ (fun _ hk => hk.elim) HB2.out ?_; (first | (exact raw_whole hcl' rfl HONE.out) | skip); intro w3 hr3 hb3 hg3))
     go_roundg (l.length - (jj + 1))
     case measure => omega
     case rel =>
      rw [Int.toNat_natCast] at hr3
      have hT := HTK.out
      have hlen : ((List.range (jj + 1)).filter (keepQ ino l)).length = m + 1 := by rw [HST.out, List.length_append, hm]; rfl
      refine ⟨jj + 1, rws.set m [.int .i64 l[jj].f0, .int .i64 l[jj].f1, .int .i64 l[jj].f2, .slice A3 l[jj].f3.length b3, .slice A4 l[jj].f4.length b4, .slice A5 l[jj].f5.length b5], by omega, by omega, by rw [hlen]; go_num, by go_num, ⟨?_⟩, ⟨?_⟩, ⟨hr3⟩, ⟨hb3⟩, ⟨Kept.of_grown hg3 HK2.out (fun k e => .inl (by injection e with e; exact e.symm))⟩⟩
      ·refine ⟨by omega, ?_, by rw [List.length_set]; exact hrwl⟩
       rw [hlen, HST.out, List.map_append, List.take_succ_eq_append_getElem (by rw [List.length_set]; omega), List.getElem_set_self, List.take_set_of_le (Nat.le_refl m), hT, List.map_cons, List.map_nil, HCS.out]
      ·rw [List.drop_set_of_lt (by omega)]
       have := congrArg (fun L => L.drop 1) HD.out
       simpa [List.drop_drop, Nat.add_comm] using this
   ·have hltz : ¬ (jj : Int) < (l.length : Int) := by omega
    obtain rfl : jj = l.length := by omega
    obtain ⟨hmj, htk, hrwl⟩ := HI.out
    have hcap := (Kd.R_reads' HR.out).2.1
    have hids := dropL_ids ino l
    have hnd : ((List.range l.length).filter (keepQ ino l)).Nodup := (List.nodup_range).sublist List.filter_sublist
    have hin : ∀ q ∈ (List.range l.length).filter (keepQ ino l), q < l.length := fun q hq => List.mem_range.1 (List.mem_filter.1 hq).1
    have hdl : (dropL ino l).length = ((List.range l.length).filter (keepQ ino l)).length := by rw [← hids, List.length_map]
    generalize hm : ((List.range l.length).filter (keepQ ino l)).length = m at hmj htk hdl ⊢
    have HIDS := Aside0.mk hids
    have HTK := Aside0.mk htk
    have HND := Aside0.mk hnd
    have HIN := Aside0.mk hin
    have HDL := Aside0.mk hdl
    have hml : (m : Int) < (l.length : Int) := by omega
    have hm0 : (0 : Int) ≤ (m : Int) := by omega
    clear hids htk hnd hin hdl
    obtain ⟨w1, hst, hr1, hg1⟩ := raw_clear (P := Tryz.prog) (zs := (Builtin.zeroCells zInode.cells (l.length - m)).toList) (i := m) HR.out (by omega) (by rw [Array.length_toList, size_zeroCells]; rfl) (zeroCells_one (by decide) _)
    have hrun := fun ty => run_clear (P := Tryz.prog) (ty := ty) (c := c0 - m) (show Tryz.prog.underlying 24 = some (.slice 51) by kernel_rfl) (zInode_run wr) (show l.length - m ≠ 0 by omega) (show (storeCells ⟨g, m * 6, none⟩ (Builtin.zeroCells zInode.cells (l.length - m)).toList).run Tryz.prog wr = .ok () w1 from hst)
    have hk1 : Kept w w1 (fun k => k = g) := Kept.of_grown hg1 HK.out (fun k e => .inl (by injection e with e; exact e.symm))
    have hb1 : Below w0.heap.size w0 w1 := HB.out.grown hg1 HB.out.size (fun k e => by injection e with e; rw [← e]; exact HG.out)
    have hs1 := sShut z51 hr1 HND.out HIN.out HTK.out HM.out (fun k hk hlt => hk1.2 k hlt hk) HP.out
    rw [HIDS.out] at hs1
    have HS1 := Aside0.mk hs1
    clear hs1 hst
    go_wp2_with ((with_reducible refine gate_builtin (b := .clear) rfl ?_); refine builtin_event (w1 := w1) rfl rfl rfl (v := .tuple #[]) ?hr ?_; (case hr => go_simp; rw [hrun 0]; rfl); (intro w2 hw; subst hw))
    go_ret
    rw [HDL.out]
    exact ⟨rfl, HS1.out, hb1, hk1.mono (fun k hk => by rw [hk]; exact HP.out)⟩
def impl_DropInode.f (k : Nat) (l0_0 : List S51) (a0_1 a1 : Int) : Option (List S51 × Int) := (impl_copyTab.f k l0_0 a0_1).bind fun t => if (t.1.length : Int) ≤ 9223372036854775807 then some (dropL a1 t.1, t.2) else none
set_option maxHeartbeats 1000000 in
set_option maxRecDepth 100000 in
theorem impl_DropInode.calls (k : Nat) (A0_0 : Option Addr) (c0_0 : Nat) (l0_0 : List S51) (a0_1 a1 : Int) (r1 : List S51) (r2 : Int) (w : World) (hr0_0 : Kd.C k51 w A0_0 l0_0.length l0_0) (hc0_0 : l0_0.length ≤ c0_0) (h : impl_DropInode.f k l0_0 a0_1 a1 = some (r1, r2)) :
  Calls Tryz.prog 61 #[.agg #[.slice A0_0 l0_0.length c0_0, .int .i64 a0_1], .int .i64 a1] w fun e w' => ∃ v0_ : Value, e = .returned (.agg #[v0_, .int .i64 r2]) ∧ Kd.S k51 51 w' w.heap.size (fun _ => True) v0_ r1 ∧ Below w.heap.size w w' := by
 unfold impl_DropInode.f at h
 replace h := bA h
 obtain ⟨⟨t1, t2⟩, H1, h⟩ := h
 split at h
 case isFalse => cases h
 case isTrue hl =>
 simp only [Option.some.injEq, Prod.mk.injEq] at h
 obtain ⟨rfl, rfl⟩ := h
 have hl' : t1.length ≤ 9223372036854775807 := by dsimp only at hl; omega
 have HL := Aside0.mk hl'
 clear hl hl'
 have HR0 := Aside0.mk hr0_0
 have HC0 := Aside0.mk hc0_0
 clear hr0_0 hc0_0
 have HB := Aside0.mk (Below.refl w.heap.size w)
 go_enter Tryz.func61, Tryz.ntmps61
 go_wp2_with fail
 refine (impl_copyTab.calls k _ _ l0_0 a0_1 t1 t2 _ (kC HR0) HC0.out H1.out).mono ?_
 rintro e w2 ⟨v0, rfl, hs, hb⟩
 obtain ⟨A, c, rfl⟩ := Kd.S_slice hs
 have KT := Aside0.mk (blk_below (blk_alloc (blk_alloc (blk_new _ _) _) _) hb)
 have KI := Aside0.mk (blk_below (blk_alloc (blk_new _ _) _) hb)
 have KR := Aside0.mk (blk_below (blk_new _ _) hb)
 simp only [World.size_alloc] at KI KR
 have S1 := siv' hs (w.heap.size + 3) w.heap.size (by simp) (by simp only [World.size_alloc]; omega)
 have n1 : w.heap.size + 3 ≤ w2.heap.size := by have := hb.size; simpa using this
 replace HB := Aside0.mk (below_step (below_alloc (below_alloc (below_alloc (Below.refl _ _) _) _) _) hb)
 clear hs hb
 have zt := z2 KT
 have zi := z1 KI
 have zr := z2 KR
 have W0 := Aside0.mk (rfl : w.heap.size = w.heap.size)
 have KT3 := Aside0.mk (show ((w2.setCell ⟨w.heap.size, 0, none⟩ (.slice A t1.length c)).setCell ⟨w.heap.size, 1, none⟩ (.int .i64 t2)).heap[w.heap.size]? = some (.cells #[.slice A t1.length c, .int .i64 t2] 26 (0, 0)) by simpa using blk_set (blk_set KT.out 0 (.slice A t1.length c)) 1 (.int .i64 t2))
 have KI3 := Aside0.mk (show ((w2.setCell ⟨w.heap.size, 0, none⟩ (.slice A t1.length c)).setCell ⟨w.heap.size, 1, none⟩ (.int .i64 t2)).heap[w.heap.size + 1]? = some (.cells #[.int .i64 a1] 3 (0, 0)) by rw [Below.heap_setCell _ _ _ _ (by simp), Below.heap_setCell _ _ _ _ (by simp)]; exact KI.out)
 have KR3 := Aside0.mk (show ((w2.setCell ⟨w.heap.size, 0, none⟩ (.slice A t1.length c)).setCell ⟨w.heap.size, 1, none⟩ (.int .i64 t2)).heap[w.heap.size + 1 + 1]? = some (.cells #[.slice none 0 0, .int .i64 0] 26 (0, 0)) by rw [Below.heap_setCell _ _ _ _ (by simp; omega), Below.heap_setCell _ _ _ _ (by simp; omega)]; exact KR.out)
 have HB3 := Aside0.mk ((HB.out.setCell (p := ⟨w.heap.size, 0, none⟩) (Nat.le_refl _) (.slice A t1.length c)).setCell (p := ⟨w.heap.size, 1, none⟩) (Nat.le_refl _) (.int .i64 t2))
 have S3 := Aside0.mk (Kd.S_far (p := ⟨w.heap.size, 1, none⟩) (Kd.S_far (p := ⟨w.heap.size, 0, none⟩) S1.out (fun k hk => by have := hk.1; dsimp only; omega) (.slice A t1.length c)) (fun k hk => by have := hk.1; dsimp only; omega) (.int .i64 t2))
 go_wp2_with fail
 refine (deleteFunc.calls a1 A c t1 (w.heap.size + 1) (fun k => w.heap.size + 3 ≤ k ∧ k < w2.heap.size) w _ HB3.out S3.out (blk_lt KI3.out) (z1 KI3).1 (by omega) HL.out).mono ?_
 rintro e w4 ⟨rfl, hs, hb, hk⟩
 replace KT := bkept KT3 hk (fun h => by omega)
 replace KR := bkept KR3 hk (fun h => by omega)
 have S4 := Aside0.mk hs
 replace HB := Aside0.mk hb
 clear hs hb hk KT3 KI3 KR3 HB3 S3 S1 KI zi zt zr
 have zt := z2 KT
 have zr := z2 KR
 go_wp2_with fail
 try simp only [Exit.inBlock, Exit.then]
 refine bodyPost_ret (results_cell_row rfl _ _ (w.heap.size + 1 + 1) 26 #[.slice A (dropL a1 t1).length c, .int .i64 t2] (0, 0) _ rfl (by refine blk_put (cs := #[.slice A (dropL a1 t1).length c, .int .i64 0]) ?_ 1 _ rfl; refine blk_put (cs := #[.slice none 0 0, .int .i64 0]) ?_ 0 _ rfl; rw [Below.heap_setCell _ _ _ _ (by simp; omega)]; exact KR.out) Tryz.underlying26 rfl (by kernel_rfl)) rfl ?_
 refine ⟨_, rfl, ?_, ?_⟩
 ·exact Kd.S_mono (Kd.S_far (Kd.S_far (Kd.S_far S4.out (fun k hk => by have := hk.1; dsimp only; omega) _) (fun k hk => by have := hk.1; dsimp only; omega) _) (fun k hk => by have := hk.1; dsimp only; omega) _) (fun _ _ => trivial)
 ·exact ((HB.out.setCell (by dsimp only; omega) _).setCell (by dsimp only; omega) _).setCell (by dsimp only; omega) _
/-! ### impl_ParentOf: function 78 -/
def impl_ParentOf.f (k : Nat) (a0 : ByteArray) : Option (ByteArray × ByteArray × Bool) := (impl_SplitPath.f k a0).bind fun bt320 => (if bt320.2 = true then (if (bt320.1.length : Int) = 0 then (some ((⟨#[]⟩ : ByteArray), (⟨#[]⟩ : ByteArray), false)) else (if 0 ≤ (wrap64 ((bt320.1.length : Int) - 1)) then (if (wrap64 ((bt320.1.length : Int) - 1)) ≤ (bt320.1.length : Int) then ((impl_JoinPath.f k (bt320.1.take ((wrap64 ((bt320.1.length : Int) - 1)) : Int).toNat)).bind fun t328 => (if (wrap64 ((bt320.1.length : Int) - 1)) < (bt320.1.length : Int) then (some (t328, rdOf ByteArray.empty bt320.1 (wrap64 ((bt320.1.length : Int) - 1)), true)) else (none))) else (none)) else (none))) else (some ((⟨#[]⟩ : ByteArray), (⟨#[]⟩ : ByteArray), false)))
def impl_ParentOf.T5 : Bool × List (List Nat × List Nat) := (true, [([], []), ([], []), ([0, 1], [0, 1]), ([2], [2]), ([], []), ([], []), ([4, 5], [4, 5]), ([6], [6]), ([3, 3, 0, 1, 2, 3], [3]), ([7, 8, 0, 1, 2, 3, 4, 5, 6, 7, 8], [7]), ([9, 0, 1, 2, 3, 4, 5, 6, 7, 8, 9], [])])
def impl_ParentOf.B5 : List Nat := [0, 0, 3, 7, 0, 0, 48, 112, 15, 511, 1023]
theorem impl_ParentOf.tab5 : rtab .any (opsOf Tryz.f78 5) = impl_ParentOf.T5 := by kernel_rfl
theorem impl_ParentOf.bits5 : waitsOk impl_ParentOf.T5.2 impl_ParentOf.B5 = true := by kernel_rfl
set_option maxHeartbeats 8000000 in
set_option maxRecDepth 100000 in
theorem impl_ParentOf.calls (k : Nat) (a0 : ByteArray) (r1 : ByteArray) (r2 : ByteArray) (r3 : Bool) (w : World) (h : impl_ParentOf.f k a0 = some (r1, r2, r3)) (hG : GOk w := by exact gk_ oB (by first | (with_reducible assumption) | assumption)) :
  Calls Tryz.prog 78 #[.string a0] w fun e w' => e = .returned (.tuple #[.string r1, .string r2, .bool r3]) ∧ Below w.heap.size w w' := by
 have HG := Aside0.mk hG
 clear hG
 have HB := Aside0.mk (Below.refl w.heap.size w)
 unfold impl_ParentOf.f at h
 have H := h
 clear h
 replace H := bA H
 obtain ⟨⟨t320, t321⟩, A2, H⟩ := H
 try dsimp only at H
 replace H := itB H
 rcases H with ⟨rfl, H⟩ | ⟨rfl, H⟩
 ·by_cases c4 : (t320.length : Int) = 0
  ·rw [if_pos c4] at H
   have c4b0 : ((t320.length : Int) == 0) = true := beq_iff_eq.mpr c4
   have c4b1 : ((t320.length : Int) != 0) = false := bne_eq_false_iff_eq.mpr c4
   clear c4
   simp only [Option.some.injEq, Prod.mk.injEq] at H
   obtain ⟨rfl, rfl, rfl⟩ := H
   go_enter Tryz.func78, Tryz.ntmps78
   go_wp2_with (first | ((with_reducible refine gate_callee (f := 16) rfl ?_); refine gl_ 10 Tryz.func16 (impl_SplitPath.calls k a0 t320 true _ A2.out) ?_; rintro e w5 ⟨v322, rfl, ho0, hb⟩; refine ⟨_, rfl, ?_⟩; have HO323 := Aside0.mk (Kd.Q_lower ho0 (below_size oB)); replace HB := Aside0.mk (below_step oB hb); obtain ⟨Ao6, co6, eo6, _⟩ := Kd.Q_slice HO323.out; subst eo6))
   go_ret3
   exact ⟨oE, oB⟩
  ·rw [if_neg c4] at H
   have c4b0 : ((t320.length : Int) == 0) = false := beq_eq_false_iff_ne.mpr c4
   have c4b1 : ((t320.length : Int) != 0) = true := bne_iff_ne.mpr c4
   have c4b2 : ¬ (t320 = []) := fun h_ => c4 (by rw [h_]; rfl)
   obtain ⟨ji7, hji7⟩ : ∃ j_ : Int, (wrap64 ((t320.length : Int) - 1)) = j_ := ⟨_, rfl⟩
   replace H : (if 0 ≤ (ji7) then (if (ji7) ≤ (t320.length : Int) then ((impl_JoinPath.f k (t320.take ((ji7) : Int).toNat)).bind fun t328 => (if (ji7) < (t320.length : Int) then (some (t328, rdOf ByteArray.empty t320 (ji7), true)) else (none))) else (none)) else (none)) = some (r1, r2, r3) := by first | (rw [hji7] at H; exact H) | (simp only [hji7] at H ⊢; exact H)
   (try rw [hji7] at A2)
   have hji7w : (IntKind.i64.wrap ((t320.length : Int) - 1)) = ji7 := (i64_w _).trans hji7
   by_cases c8 : 0 ≤ (ji7)
   ·rw [if_pos c8] at H
    have c8b0 := eq_true c8
    have c8b1 : decide (0 ≤ (ji7)) = true := decide_eq_true c8
    clear c8
    by_cases c9 : (ji7) ≤ (t320.length : Int)
    ·rw [if_pos c9] at H
     have c9b0 := eq_true c9
     have c9b1 : decide ((ji7) ≤ (t320.length : Int)) = true := decide_eq_true c9
     clear c9
     obtain ⟨y324, hy324⟩ : ∃ y_ : List ByteArray, y_ = (t320.take ((ji7) : Int).toNat) := ⟨_, rfl⟩
     replace H : ((impl_JoinPath.f k y324).bind fun t328 => (if (ji7) < (t320.length : Int) then (some (t328, rdOf ByteArray.empty t320 (ji7), true)) else (none))) = some (r1, r2, r3) := by first | (rw [hy324]; with_reducible exact H) | (have H2_ := (Option.bind_some _ _).symm.trans H; rw [hy324]; with_reducible exact H2_) | (have H2_ := (Option.bind_some _ _).symm.trans H; with_reducible exact H2_) | with_reducible exact H | (rw [hy324]; exact H) | exact H
     have Ny324 := Aside0.mk hy324
     clear hy324
     replace H := bA H
     obtain ⟨t328, A10, H⟩ := H
     try dsimp only at H
     replace H := itD H
     rcases H with ⟨c11b0, H⟩ | ⟨c11b0, H⟩
     ·simp only [Option.some.injEq, Prod.mk.injEq] at H
      obtain ⟨rfl, rfl, rfl⟩ := H
      go_enter Tryz.func78, Tryz.ntmps78
      try go_wp2_with (first | ((with_reducible refine gate_callee (f := 16) rfl ?_); refine gl_ 10 Tryz.func16 (impl_SplitPath.calls k a0 t320 true _ A2.out) ?_; rintro e w12 ⟨v322, rfl, ho0, hb⟩; refine ⟨_, rfl, ?_⟩; have HO323 := Aside0.mk (Kd.Q_lower ho0 (below_size oB)); replace HB := Aside0.mk (below_step oB hb); obtain ⟨Ao13, co13, eo13, _⟩ := Kd.Q_slice HO323.out; subst eo13))
      replace HO323 := Aside0.mk (Kd.Q_drew HO323.out)
      replace HB := Aside0.mk (below_drew1 HB.out)
      have q15 : ((ji7) : Int) ≤ ((t320.length : Int) : Int) := oa
      obtain ⟨i015, hi015, _, hsz15, _⟩ := info_parts info9
      have hroom15 : t320.length ≤ co13 := (Kd.Q_reads' HO323.out).2.1
      have hC15 : Kd.C Kd.string _ Ao13 t320.length t320 := (Kd.Q_reads' HO323.out).2.2
      have hcut15 := cut_to (P := Tryz.prog) 31 9 .i64 Tryz.underlying31 hi015 Ao13 t320.length co13 (ji7) oa q15 hroom15
      have hr15 := Kd.C_take (m := ((ji7) : Int).toNat) hC15 (by omega)
      have hy15 : y324.length = ((ji7) : Int).toNat := (by rw [Ny324.out, List.length_take]; omega)
      rw [← Ny324.out] at hr15
      rw [← hy15] at hcut15
      have HR327 := Aside0.mk hr15
      have HC327 := Aside0.mk (show y324.length ≤ co13 from by omega)
      clear hr15 hC15 hroom15 hi015 hsz15
      have KY15 := Aside0.mk hy15
      clear hy15
      have KL15 := Aside0.mk (show ((ji7) : Int).toNat ≤ t320.length from by omega)
      replace q15 := eq_true q15
      have p329 : (0 ≤ ((ji7) : Int)) = True := oT
      have q329 : ((ji7) < (t320.length : Int)) = True := oT
      obtain ⟨ad329, e329, hx329_0⟩ := Kd.at_string (Kd.Q_reads' HO323.out).2.2 (ji7) oa oa
      cases e329
      refine st_ 11 (fun w' => w'.cell? (ad329.add ((ji7)).toNat) = some (.string (rdOf ByteArray.empty t320 (ji7)))) impl_ParentOf.tab5 impl_ParentOf.bits5 (hx329_0) (fun hHeld HT_ HW_ => ?_)
      generalize w12.drew = w14 at HO323 HB HR327 hx329_0 hHeld ⊢
      refine pu_ 0 23 HT_ ?_
      refine pu_ 1 24 HT_ ?_
      refine pu_ 2 25 HT_ ?_
      refine pu_ 4 27 HT_ ?_
      refine pu_ 5 28 HT_ ?_
      refine pu_ 6 29 HT_ ?_
      refine take_ (i := 7) (N := some 30) (v := ?_) (a' := ?_) (lb 11 247) rfl rfl (take_ofW HT_.out HW_.out (by kernel_rfl)) (fun _ _ _ h => h) (Or.inl ⟨by rfl, ?_⟩) hHeld ?_ ?_
      rotate_left
      ·intro w' s0
       go_simp
       with_reducible rfl
      rotate_left
      ·simp only [Act.put, List.setIfInBounds_toArray, List.set_cons_zero, List.set_cons_succ, i64_w, i32_w]
       rfl
      refine on_ 3 26 HT_ (fun K hK => ?_)
      refine gr_ 26 Tryz.func110 (impl_JoinPath.calls k _ _ y324 t328 _ ?side1 HC327.out A10.out) ?_
      (case side1 => repeat (first | exact (by repeat (first | (with_reducible exact HR327.out) | (with_reducible refine Kd.C_alloc ?_ _) | (with_reducible refine Kd.C_drewN ?_ _) | (with_reducible refine Kd.C_drew ?_) | exact HR327.out)) | (with_reducible refine Kd.C_alloc ?_ _) | (with_reducible refine Kd.C_drewN ?_ _) | (with_reducible refine Kd.C_drew ?_)))
      rintro e w16 ⟨rfl, hb⟩
      have HS0_ := (hb.cell (World.block_lt_of_cell? _ _ (hHeld))).trans (hHeld)
      refine ⟨_, rfl, ?_⟩
      replace HO323 := beQ0 HO323 hb
      replace HR327 := Aside0.mk (Kd.C_below (by repeat (first | (with_reducible exact HR327.out) | (with_reducible refine Kd.C_alloc ?_ _) | (with_reducible refine Kd.C_drewN ?_ _) | (with_reducible refine Kd.C_drew ?_) | exact HR327.out)) hb)
      replace HB := Aside0.mk (below_step oB hb)
      refine hk_ hK 26 (HS0_) (fun hHeld => ?_)
      clear hK K
      refine pu_ 8 2 HT_ ?_
      refine pu_ 9 3 HT_ ?_
      refine pu_ 10 4 HT_ ?_
      refine dn_ HT_ ?_
      try go_wp2
      go_ret3
      exact ⟨by first | rfl | (simp [errW_none, errW_some] <;> rfl) | (simp only [← hji7]; first | rfl | (simp [errW_none, errW_some] <;> rfl)) | (simp [*, errW_none, errW_some] <;> rfl), oB⟩
     ·cases H
    ·rw [if_neg c9] at H
     exact absurd H (by simp)
   ·rw [if_neg c8] at H
    exact absurd H (by simp)
 ·simp only [Option.some.injEq, Prod.mk.injEq] at H
  obtain ⟨rfl, rfl, rfl⟩ := H
  go_enter Tryz.func78, Tryz.ntmps78
  go_wp2_with (first | ((with_reducible refine gate_callee (f := 16) rfl ?_); refine gl_ 10 Tryz.func16 (impl_SplitPath.calls k a0 t320 false _ A2.out) ?_; rintro e w17 ⟨v322, rfl, ho0, hb⟩; refine ⟨_, rfl, ?_⟩; have HO323 := Aside0.mk (Kd.Q_lower ho0 (below_size oB)); replace HB := Aside0.mk (below_step oB hb)))
  go_ret3
  exact ⟨oE, oB⟩

/-! ### impl_Walk: function 31 -/
def impl_Walk.l0 : Nat → Int → List ByteArray → Int → Int → List (S51) → Int → Option (Int × Int)
 | 0, _, _, _, _, _, _ => none
 | k + 1, x8, x20, x21, x22, x281000, x281001 => if x22 < x21 then (if 0 ≤ x22 then (if x22 < (x20.length : Int) then ((impl_InodeAt.f k x281000 x281001 x8).bind fun bt286 => (if bt286.2.2.2.2.2.2 = true then (if bt286.2.1 = 2 then ((impl_EntOf.f k bt286.1 bt286.2.1 bt286.2.2.1 bt286.2.2.2.1 bt286.2.2.2.2.1 bt286.2.2.2.2.2.1 (rdOf ByteArray.empty x20 x22)).bind fun t300 => (if t300 = 0 then (some (0, 2)) else (impl_Walk.l0 k t300 x20 x21 (wrap64 (x22 + 1)) x281000 x281001))) else (some (0, 3))) else (some (0, 2)))) else (none)) else (none)) else (some (x8, 0))
def impl_Walk.f (k : Nat) (l0_0 : List (S51)) (a0_1 : Int) (a1 : ByteArray) : Option (Int × Int) := (impl_SplitPath.f k a1).bind fun bt281 => (if bt281.2 = true then (impl_Walk.l0 k 1 bt281.1 (bt281.1.length : Int) 0 l0_0 a0_1) else (some (0, 1)))
set_option maxHeartbeats 8000000 in
set_option maxRecDepth 100000 in
theorem impl_Walk.calls (k : Nat) (A0_0 : Option Addr) (c0_0 : Nat) (l0_0 : List (S51)) (a0_1 : Int) (a1 : ByteArray) (r1 : Int) (r2 : Int) (w : World) (hr0_0 : Kd.C k51 w A0_0 l0_0.length l0_0) (hc0_0 : l0_0.length ≤ c0_0) (h : impl_Walk.f k l0_0 a0_1 a1 = some (r1, r2)) (hG : GOk w := by exact gk_ oB (by first | (with_reducible assumption) | assumption)) :
  Calls Tryz.prog 31 #[.agg #[.slice A0_0 l0_0.length c0_0, .int .i64 a0_1], .string a1] w fun e w' => e = .returned (.tuple #[.int .i64 r1, .int .i64 r2]) ∧ Below w.heap.size w w' := by
 have HG := Aside0.mk hG
 clear hG
 have hu26 := Tryz.underlying26
 have hu51 := Tryz.underlying51
 have HR0_0 := Aside0.mk hr0_0
 have HC0_0 := Aside0.mk hc0_0
 clear hr0_0 hc0_0
 have HB := Aside0.mk (Below.refl w.heap.size w)
 unfold impl_Walk.f at h
 have H := h
 clear h
 replace H := bA H
 obtain ⟨⟨t281, t282⟩, A3, H⟩ := H
 try dsimp only at H
 replace H := itB H
 rcases H with ⟨rfl, H⟩ | ⟨rfl, H⟩
 ·have H' := Aside0.mk H
  clear H
  go_enter Tryz.func31, Tryz.ntmps31
  go_wp2_with (first | ((with_reducible refine gate_dst (N := 2) rfl ?_); refine bx_ 2 #[.slice A0_0 l0_0.length c0_0, .int .i64 a0_1] 26 ?_; intro gb280 hg w5 hbox hb; have BK280 := Aside0.mk (hbox); have GW280 := gs_ hg; replace HB := Aside0.mk (below_step oB hb); clear hb hbox hg) | ((with_reducible refine gate_callee (f := 16) rfl ?_); refine gl_ 15 Tryz.func16 (impl_SplitPath.calls k a1 t281 true _ A3.out) ?_; rintro e w6 ⟨v283, rfl, ho0, hb⟩; refine ⟨_, rfl, ?_⟩; have HO284 := Aside0.mk (Kd.Q_lower ho0 (below_size oB)); replace BK280 := kb_ BK280 hb; replace HB := Aside0.mk (below_step oB hb); obtain ⟨Ao7, co7, eo7, _⟩ := Kd.Q_slice HO284.out; subst eo7))
  go_loopg [8, 22] k (fun kq v8 v22 w' => ∃ (x8_1 : Int) (x22_1 : Int), v8 = .int .i64 x8_1 ∧ v22 = .int .i64 x22_1 ∧ Aside0 (impl_Walk.l0 kq x8_1 t281 (t281.length : Int) x22_1 l0_0 a0_1 = some (r1, r2)) ∧ Aside0 (kq ≤ k) ∧ Aside0 (Kd.Q Kd.string 9 w' w.heap.size (fun _ => True) (.slice Ao7 t281.length co7) t281) ∧ Aside0 (w'.heap[gb280]? = some (.cells #[(.slice A0_0 l0_0.length c0_0), .int .i64 a0_1] 26 (0, 0))) ∧ Aside0 (Below w.heap.size w w'))
  case atStart => exact ⟨(1), (0), oS, oS, H', ⟨Nat.le_refl _⟩, ⟨by (with_reducible repeat (first | apply Kd.Q_alloc | apply Kd.Q_drewN | apply Kd.Q_drew)); exact HO284.out⟩, ⟨oF BK280⟩, ⟨oB⟩⟩
  case round =>
   clear H'
   obtain ⟨x8_1, x22_1, rfl, rfl, HA, HK1, HO_20, BK280, HB⟩ := hrel
   cases gk with
   | zero => exact absurd HA.out (by simp [impl_Walk.l0])
   | succ k1 =>
    have H := HA.out
    clear HA
    simp only [impl_Walk.l0] at H
    replace H := itD H
    rcases H with ⟨c8b0, H⟩ | ⟨c8b0, H⟩
    ·replace H := itD H
     rcases H with ⟨c9b0, H⟩ | ⟨c9b0, H⟩
     ·replace H := itD H
      rcases H with ⟨c10b0, H⟩ | ⟨c10b0, H⟩
      ·replace H := bA H
       obtain ⟨⟨t286, t287, t288, t289, t292, t295, t298⟩, A11, H⟩ := H
       try dsimp only at H
       replace H := itB H
       rcases H with ⟨rfl, H⟩ | ⟨rfl, H⟩
       ·by_cases c13 : t287 = 2
        ·rw [if_pos c13] at H
         have c13b0 : (t287 == 2) = true := beq_iff_eq.mpr c13
         have c13b1 : (t287 != 2) = false := bne_eq_false_iff_eq.mpr c13
         clear c13
         replace H := bA H
         obtain ⟨t300, A14, H⟩ := H
         try dsimp only at H
         by_cases c15 : t300 = 0
         ·rw [if_pos c15] at H
          have c15b0 : (t300 == 0) = true := beq_iff_eq.mpr c15
          have c15b1 : (t300 != 0) = false := bne_eq_false_iff_eq.mpr c15
          clear c15
          simp only [Option.some.injEq, Prod.mk.injEq] at H
          obtain ⟨rfl, rfl⟩ := H
          have p285 : (0 ≤ (x22_1 : Int)) = True := oT
          have q285 : (x22_1 < (t281.length : Int)) = True := oT
          obtain ⟨ad285, e285, hx285_0⟩ := Kd.at_string (Kd.Q_reads' HO_20.out).2.2 x22_1 oa oa
          cases e285
          obtain ⟨⟨_, _⟩, _, _⟩ := z2 BK280
          go_wp2_with (first | ((with_reducible refine gate_callee (f := 42) rfl ?_); refine gl_ 29 Tryz.func42 (impl_InodeAt.calls k1 _ _ l0_0 a0_1 x8_1 t286 t287 t288 t289 t292 t295 true _ (kC HR0_0) HC0_0.out A11.out) ?_; rintro e w17 ⟨v290, v293, v296, rfl, ho0, ho1, ho2, hb⟩; refine ⟨_, rfl, ?_⟩; have HO291 := Aside0.mk (Kd.R_lower ho0 (below_size oB)); have HO294 := Aside0.mk (Kd.R_lower ho1 (below_size oB)); have HO297 := Aside0.mk (Kd.R_lower ho2 (below_size oB)); replace HO_20 := beQ0 HO_20 hb; replace BK280 := kb_ BK280 hb; replace HB := Aside0.mk (below_step oB hb); (try clear ho1); (try clear ho2)) | ((with_reducible refine gate_dst (N := 11) rfl ?_); refine bx_ 11 #[.int .i64 0, .int .i64 0, .int .i64 0, .slice none 0 0, .slice none 0 0, .slice none 0 0] 51 ?_; intro gb299 hg w18 hbox hb; have BK299 := Aside0.mk (hbox); have GW299 := gs_ hg; have NB280_299 := nl_ hg BK280; have NB299_280 := nr_ hg BK280; replace HO_20 := beQ0 HO_20 hb; replace HO291 := kr_ HO291 hb; replace HO294 := kr_ HO294 hb; replace HO297 := kr_ HO297 hb; replace BK280 := kb_ BK280 hb; replace HB := Aside0.mk (below_step oB hb); clear hb hbox hg; have hnb19 := NB299_280.out; have hnc19 := NB280_299.out; obtain ⟨⟨_, _, _, _, _, _⟩, _, _, _, _, _, _⟩ := z6 BK299; obtain ⟨Ao21, co21, eo21⟩ := Kd.R_slice HO291.out; subst eo21; obtain ⟨Ao22, co22, eo22⟩ := Kd.R_slice HO294.out; subst eo22; obtain ⟨Ao23, co23, eo23⟩ := Kd.R_slice HO297.out; subst eo23) | ((with_reducible refine gate_callee (f := 58) rfl ?_); refine gl_ 41 Tryz.func58 (impl_EntOf.calls k1 t286 t287 t288 _ _ t289 _ _ t292 _ _ t295 (rdOf ByteArray.empty t281 x22_1) t300 _ (rcR1 HO291 BK299) (ko HO291) (rcR1 HO294 BK299) (ko HO294) (rcR1 HO297 BK299) (ko HO297) A14.out) ?_; rintro e w24 ⟨rfl, hb⟩; refine ⟨_, rfl, ?_⟩; replace HO_20 := beQ1 HO_20 BK299 hb; replace HO291 := beR1 HO291 BK299 hb; replace HO294 := beR1 HO294 BK299 hb; replace HO297 := beR1 HO297 BK299 hb; replace BK280 := kb_ BK280 hb; replace BK299 := kp_ #[.int .i64 t286, .int .i64 t287, .int .i64 t288, .slice Ao21 t289.length co21, .slice Ao22 t292.length co22, .slice Ao23 t295.length co23] BK299 hb; replace HB := Aside0.mk (below_step oB hb); (try clear hk)))
          go_ret2
          exact ⟨oE, oB⟩
         ·rw [if_neg c15] at H
          have c15b0 : (t300 == 0) = false := beq_eq_false_iff_ne.mpr c15
          have c15b1 : (t300 != 0) = true := bne_iff_ne.mpr c15
          have H' := Aside0.mk H
          clear H
          have p285 : (0 ≤ (x22_1 : Int)) = True := oT
          have q285 : (x22_1 < (t281.length : Int)) = True := oT
          obtain ⟨ad285, e285, hx285_0⟩ := Kd.at_string (Kd.Q_reads' HO_20.out).2.2 x22_1 oa oa
          cases e285
          obtain ⟨⟨_, _⟩, _, _⟩ := z2 BK280
          go_wp2_with (first | ((with_reducible refine gate_callee (f := 42) rfl ?_); refine gl_ 29 Tryz.func42 (impl_InodeAt.calls k1 _ _ l0_0 a0_1 x8_1 t286 t287 t288 t289 t292 t295 true _ (kC HR0_0) HC0_0.out A11.out) ?_; rintro e w26 ⟨v290, v293, v296, rfl, ho0, ho1, ho2, hb⟩; refine ⟨_, rfl, ?_⟩; have HO291 := Aside0.mk (Kd.R_lower ho0 (below_size oB)); have HO294 := Aside0.mk (Kd.R_lower ho1 (below_size oB)); have HO297 := Aside0.mk (Kd.R_lower ho2 (below_size oB)); replace HO_20 := beQ0 HO_20 hb; replace BK280 := kb_ BK280 hb; replace HB := Aside0.mk (below_step oB hb); (try clear ho1); (try clear ho2)) | ((with_reducible refine gate_dst (N := 11) rfl ?_); refine bx_ 11 #[.int .i64 0, .int .i64 0, .int .i64 0, .slice none 0 0, .slice none 0 0, .slice none 0 0] 51 ?_; intro gb299 hg w27 hbox hb; have BK299 := Aside0.mk (hbox); have GW299 := gs_ hg; have NB280_299 := nl_ hg BK280; have NB299_280 := nr_ hg BK280; replace HO_20 := beQ0 HO_20 hb; replace HO291 := kr_ HO291 hb; replace HO294 := kr_ HO294 hb; replace HO297 := kr_ HO297 hb; replace BK280 := kb_ BK280 hb; replace HB := Aside0.mk (below_step oB hb); clear hb hbox hg; have hnb28 := NB299_280.out; have hnc28 := NB280_299.out; obtain ⟨⟨_, _, _, _, _, _⟩, _, _, _, _, _, _⟩ := z6 BK299; obtain ⟨Ao30, co30, eo30⟩ := Kd.R_slice HO291.out; subst eo30; obtain ⟨Ao31, co31, eo31⟩ := Kd.R_slice HO294.out; subst eo31; obtain ⟨Ao32, co32, eo32⟩ := Kd.R_slice HO297.out; subst eo32) | ((with_reducible refine gate_callee (f := 58) rfl ?_); refine gl_ 41 Tryz.func58 (impl_EntOf.calls k1 t286 t287 t288 _ _ t289 _ _ t292 _ _ t295 (rdOf ByteArray.empty t281 x22_1) t300 _ (rcR1 HO291 BK299) (ko HO291) (rcR1 HO294 BK299) (ko HO294) (rcR1 HO297 BK299) (ko HO297) A14.out) ?_; rintro e w33 ⟨rfl, hb⟩; refine ⟨_, rfl, ?_⟩; replace HO_20 := beQ1 HO_20 BK299 hb; replace HO291 := beR1 HO291 BK299 hb; replace HO294 := beR1 HO294 BK299 hb; replace HO297 := beR1 HO297 BK299 hb; replace BK280 := kb_ BK280 hb; replace BK299 := kp_ #[.int .i64 t286, .int .i64 t287, .int .i64 t288, .slice Ao30 t289.length co30, .slice Ao31 t292.length co31, .slice Ao32 t295.length co32] BK299 hb; replace HB := Aside0.mk (below_step oB hb); (try clear hk)))
          go_roundg k1
          case measure => have := HK1.out; omega
          case rel => exact ⟨(t300), (wrap64 (x22_1 + 1)), oS, oS, H', ⟨by have := HK1.out; omega⟩, ⟨by (with_reducible repeat (first | apply Kd.Q_alloc | apply Kd.Q_drewN | apply Kd.Q_drew)); exact HO_20.out⟩, ⟨oF BK280⟩, ⟨oB⟩⟩
        ·rw [if_neg c13] at H
         have c13b0 : (t287 == 2) = false := beq_eq_false_iff_ne.mpr c13
         have c13b1 : (t287 != 2) = true := bne_iff_ne.mpr c13
         simp only [Option.some.injEq, Prod.mk.injEq] at H
         obtain ⟨rfl, rfl⟩ := H
         have p285 : (0 ≤ (x22_1 : Int)) = True := oT
         have q285 : (x22_1 < (t281.length : Int)) = True := oT
         obtain ⟨ad285, e285, hx285_0⟩ := Kd.at_string (Kd.Q_reads' HO_20.out).2.2 x22_1 oa oa
         cases e285
         obtain ⟨⟨_, _⟩, _, _⟩ := z2 BK280
         go_wp2_with (first | ((with_reducible refine gate_callee (f := 42) rfl ?_); refine gl_ 29 Tryz.func42 (impl_InodeAt.calls k1 _ _ l0_0 a0_1 x8_1 t286 t287 t288 t289 t292 t295 true _ (kC HR0_0) HC0_0.out A11.out) ?_; rintro e w35 ⟨v290, v293, v296, rfl, ho0, ho1, ho2, hb⟩; refine ⟨_, rfl, ?_⟩; have HO291 := Aside0.mk (Kd.R_lower ho0 (below_size oB)); have HO294 := Aside0.mk (Kd.R_lower ho1 (below_size oB)); have HO297 := Aside0.mk (Kd.R_lower ho2 (below_size oB)); replace HO_20 := beQ0 HO_20 hb; replace BK280 := kb_ BK280 hb; replace HB := Aside0.mk (below_step oB hb); (try clear ho1); (try clear ho2)) | ((with_reducible refine gate_dst (N := 11) rfl ?_); refine bx_ 11 #[.int .i64 0, .int .i64 0, .int .i64 0, .slice none 0 0, .slice none 0 0, .slice none 0 0] 51 ?_; intro gb299 hg w36 hbox hb; have BK299 := Aside0.mk (hbox); have GW299 := gs_ hg; have NB280_299 := nl_ hg BK280; have NB299_280 := nr_ hg BK280; replace HO_20 := beQ0 HO_20 hb; replace HO291 := kr_ HO291 hb; replace HO294 := kr_ HO294 hb; replace HO297 := kr_ HO297 hb; replace BK280 := kb_ BK280 hb; replace HB := Aside0.mk (below_step oB hb); clear hb hbox hg; have hnb37 := NB299_280.out; have hnc37 := NB280_299.out; obtain ⟨⟨_, _, _, _, _, _⟩, _, _, _, _, _, _⟩ := z6 BK299; obtain ⟨Ao39, co39, eo39⟩ := Kd.R_slice HO291.out; subst eo39; obtain ⟨Ao40, co40, eo40⟩ := Kd.R_slice HO294.out; subst eo40; obtain ⟨Ao41, co41, eo41⟩ := Kd.R_slice HO297.out; subst eo41))
         go_ret2
         exact ⟨oE, oB⟩
       ·simp only [Option.some.injEq, Prod.mk.injEq] at H
        obtain ⟨rfl, rfl⟩ := H
        have p285 : (0 ≤ (x22_1 : Int)) = True := oT
        have q285 : (x22_1 < (t281.length : Int)) = True := oT
        obtain ⟨ad285, e285, hx285_0⟩ := Kd.at_string (Kd.Q_reads' HO_20.out).2.2 x22_1 oa oa
        cases e285
        obtain ⟨⟨_, _⟩, _, _⟩ := z2 BK280
        go_wp2_with (first | ((with_reducible refine gate_callee (f := 42) rfl ?_); refine gl_ 29 Tryz.func42 (impl_InodeAt.calls k1 _ _ l0_0 a0_1 x8_1 t286 t287 t288 t289 t292 t295 false _ (kC HR0_0) HC0_0.out A11.out) ?_; rintro e w43 ⟨v290, v293, v296, rfl, ho0, ho1, ho2, hb⟩; refine ⟨_, rfl, ?_⟩; have HO291 := Aside0.mk (Kd.R_lower ho0 (below_size oB)); have HO294 := Aside0.mk (Kd.R_lower ho1 (below_size oB)); have HO297 := Aside0.mk (Kd.R_lower ho2 (below_size oB)); replace HO_20 := beQ0 HO_20 hb; replace BK280 := kb_ BK280 hb; replace HB := Aside0.mk (below_step oB hb); (try clear ho1); (try clear ho2)) | ((with_reducible refine gate_dst (N := 11) rfl ?_); refine bx_ 11 #[.int .i64 0, .int .i64 0, .int .i64 0, .slice none 0 0, .slice none 0 0, .slice none 0 0] 51 ?_; intro gb299 hg w44 hbox hb; have BK299 := Aside0.mk (hbox); have GW299 := gs_ hg; have NB280_299 := nl_ hg BK280; have NB299_280 := nr_ hg BK280; replace HO_20 := beQ0 HO_20 hb; replace HO291 := kr_ HO291 hb; replace HO294 := kr_ HO294 hb; replace HO297 := kr_ HO297 hb; replace BK280 := kb_ BK280 hb; replace HB := Aside0.mk (below_step oB hb); clear hb hbox hg; have hnb45 := NB299_280.out; have hnc45 := NB280_299.out; obtain ⟨⟨_, _, _, _, _, _⟩, _, _, _, _, _, _⟩ := z6 BK299; obtain ⟨Ao47, co47, eo47⟩ := Kd.R_slice HO291.out; subst eo47; obtain ⟨Ao48, co48, eo48⟩ := Kd.R_slice HO294.out; subst eo48; obtain ⟨Ao49, co49, eo49⟩ := Kd.R_slice HO297.out; subst eo49))
        go_ret2
        exact ⟨oE, oB⟩
      ·cases H
     ·cases H
    ·simp only [Option.some.injEq, Prod.mk.injEq] at H
     obtain ⟨rfl, rfl⟩ := H
     go_wp2
     go_ret2
     exact ⟨oE, oB⟩
 ·simp only [Option.some.injEq, Prod.mk.injEq] at H
  obtain ⟨rfl, rfl⟩ := H
  go_enter Tryz.func31, Tryz.ntmps31
  go_wp2_with (first | ((with_reducible refine gate_dst (N := 2) rfl ?_); refine bx_ 2 #[.slice A0_0 l0_0.length c0_0, .int .i64 a0_1] 26 ?_; intro gb280 hg w50 hbox hb; have BK280 := Aside0.mk (hbox); have GW280 := gs_ hg; replace HB := Aside0.mk (below_step oB hb); clear hb hbox hg) | ((with_reducible refine gate_callee (f := 16) rfl ?_); refine gl_ 15 Tryz.func16 (impl_SplitPath.calls k a1 t281 false _ A3.out) ?_; rintro e w51 ⟨v283, rfl, ho0, hb⟩; refine ⟨_, rfl, ?_⟩; have HO284 := Aside0.mk (Kd.Q_lower ho0 (below_size oB)); replace BK280 := kb_ BK280 hb; replace HB := Aside0.mk (below_step oB hb)))
  go_ret2
  exact ⟨oE, oB⟩

end Go.Proofs.YtkcfmbggdkkfeaaGreatDoor.P
