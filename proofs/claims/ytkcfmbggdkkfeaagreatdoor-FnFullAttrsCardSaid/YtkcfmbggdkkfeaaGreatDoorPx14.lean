-- By this session's own program (wip/myprint.py) out of the translation; Lean checks it.
import Derived.Test.YtkcfmbggdkkfeaaGreatDoorPx0
import Derived.Test.YtkcfmbggdkkfeaaGreatDoorPx3
import Derived.Test.YtkcfmbggdkkfeaaGreatDoorPx6
import Derived.Test.YtkcfmbggdkkfeaaGreatDoorPx8
import Derived.Test.YtkcfmbggdkkfeaaGreatDoorPx11
import Derived.Test.YtkcfmbggdkkfeaaGreatDoorPx13
namespace Go.Proofs.YtkcfmbggdkkfeaaGreatDoor.P
open Go.RowKit Go.Proofs.YtkcfmbggdkkfeaaGreatDoorW.PrintWords Go.Proofs.YtkcfmbggdkkfeaaGreatDoorW.PrintLast Go.Proofs.YtkcfmbggdkkfeaaGreatDoorW.PrintMore
attribute [local go_sem] max2_int min2_int max_two min_two max_three min_three max_four min_four   -- for this text's walks alone
set_option linter.unusedVariables false
set_option linter.unusedSimpArgs false

/-! ### impl_WriteAt: function 22 -/
theorem take3 {α : Type} (L M : List α) (i n : Nat) (h : i + M.length ≤ n) (hn : n ≤ L.length) : (L.take i ++ M ++ L.drop (i + M.length)).take n = (L.take n).take i ++ M ++ (L.take n).drop (i + M.length) := by
 rw [List.take_append, List.take_of_length_le (by simp only [List.length_append, List.length_take]; omega), List.drop_take, List.take_take, Nat.min_eq_left (by omega : i ≤ n)]
 congr 2
 simp only [List.length_append, List.length_take]
 omega
/-- copy(v[i:], ys), v a row of bytes of one's own that has room for them. -/
theorem wcopy {P : Program} {ops : Array Oper} {rest : List Oper} {o : Oper} {a : Act} {Q : Exit → Act → World → Prop} {w0 W : World} (base : Nat) (hgd : o.guard = none) (s x : Operand) (t t' e : TypeId)
  (ho : o.op = .call { callee := .builtin .copy, args := #[s, x], argTypes := #[t, t'] }) (ht : P.underlying t = some (.slice e)) (hinfo : (P.info? e).map (·.size) = some 1)
  (A : Option Addr) (c i : Nat) (xs ys : List Int) (B : Option Addr) (cB : Nat) (ok : Nat → Prop) (hs : a.eval s = .slice (if c = i then A else Option.map (fun p => p.add i) A) (xs.length - i) (c - i)) (hx : a.eval x = .slice B ys.length cB)
  (HO : (Kd.int .u8).R e W base ok (.slice A xs.length c) xs) (HR : (Kd.int .u8).C W B ys.length ys) (hle : i + ys.length ≤ xs.length) (HB : Below base w0 W) (hbase : base ≤ W.heap.size)
  (h : ∀ w1, (Kd.int .u8).R e w1 base ok (.slice A xs.length c) (xs.take i ++ ys ++ xs.drop (i + ys.length)) → Below base w0 w1 → W.grownBy w1 (Value.slice A xs.length c).ownBlock → wpList P ops Q rest (a.put o.dst (.int .i64 ((ys.length : Nat) : Int))) w1) :
  wpList P ops Q (o :: rest) a W := by
 have hR := Kd.reads_of_C (enc := fun n => Value.int .u8 n) (d := (0 : Int)) (h1 := fun _ => rfl) HR
 have hown := Kd.own_of_R HO
 have fin : ∀ w1, (Builtin.copy_ #[t, t'] o.type #[.slice (if c = i then A else Option.map (fun p => p.add i) A) (xs.length - i) (c - i), .slice B ys.length cB]).run P W = .ok (goInt ((ys.length : Nat) : Int)) w1 → (Kd.int .u8).R e w1 base ok (.slice A xs.length c) (xs.take i ++ ys ++ xs.drop (i + ys.length)) → W.grownBy w1 (Value.slice A xs.length c).ownBlock → wpList P ops Q (o :: rest) a W := by
  intro w1 hr hrow hg
  refine wpList_plain hgd fun K hK => ?_
  unfold Oper.wp execOp
  simp only [ho, resolve, invoke, builtin, Sem.run_bind, Sem.run_pure, Result.andThen_ok, List.map_toArray, List.map_cons, List.map_nil, hs, hx, hr]
  exact hK _ _ (h w1 hrow (HB.grown hg hbase (own_base hown)) hg)
 rcases Nat.eq_zero_or_pos ys.length with h0 | hp
 ·obtain rfl := List.eq_nil_of_length_eq_zero h0
  refine fin W ?_ (by simpa using HO) (World.grownBy.refl W _)
  have := run_copy_none (P := P) W t t' o.type e (if c = i then A else Option.map (fun p => p.add i) A) B (xs.length - i) (c - i) 0 cB ht hinfo (Nat.zero_min _)
  simpa using this
 ·obtain ⟨ad, hA, hc⟩ := hR.2.2 hp
  rcases hown.2 with ⟨_, hx0⟩ | ⟨g, cap, cur, hv, hb, hh, hnc, hcm, hcs, htake⟩
  ·omega
  injection hv with hA2 _ hcc
  subst hA2; subst hcc
  have hci : ¬ c = i := by omega
  have hcs1 : cur.size = c := by omega
  have hl : (ys.map fun n => Value.int .u8 n).length = ys.length := List.length_map ..
  have hsrc : ∀ j u, (ys.map fun n => Value.int .u8 n)[j]? = some u → W.cell? (ad.add j) = some u := by
   intro j u hu
   rw [List.getElem?_map] at hu
   obtain ⟨y, hy, rfl⟩ := Option.map_eq_some_iff.1 hu
   have hj := (List.getElem?_eq_some_iff.1 hy).1
   rw [hc j hj]
   simp [List.getD_eq_getElem?_getD, hy]
  have hr := run_copy_cells (P := P) W t t' o.type e g i (xs.length - i) (c - i) ad ys.length cB (ys.map fun n => Value.int .u8 n) ht hinfo (by rw [hl]; exact (Nat.min_eq_left (by omega : ys.length ≤ xs.length - i)).symm) hsrc
   (fun j hj => by rw [cell_of_row W g _ cur e (0, 0) hh]; simp; omega) (fun j _ => blk_frozen hh _) (by intro u hu; simp only [List.mem_map] at hu; obtain ⟨q, _, rfl⟩ := hu; rfl)
  obtain ⟨cur', h3, h4, h5⟩ := setCells_row (ys.map fun n => Value.int .u8 n) i W cur hh (by rw [hl]; omega)
  obtain ⟨s1, s2, s3, s4⟩ := setCells_same g (ys.map fun n => Value.int .u8 n) i W
  refine fin _ (by rw [hA, if_neg hci]; rw [hl] at hr; rw [show Option.map (fun p => Addr.add p i) (some (⟨g, 0, none⟩ : Addr)) = some ⟨g, i, none⟩ from by simp [Addr.add]; omega]; exact hr) (Kd.R_of_own (enc := fun n => Value.int .u8 n) (h1 := fun _ => rfl) ?_ HO.1) ⟨s1, s2, s3, by rw [s4]; exact Nat.le_refl _, fun k _ hk => setCells_far _ _ k (fun he => hk (by rw [he]; simp [Value.ownBlock]))⟩
  have hln : (xs.take i ++ ys ++ xs.drop (i + ys.length)).length = xs.length := by
   simp only [List.length_append, List.length_take, List.length_drop]
   omega
  rw [hln]
  refine ⟨by simp only [encs, List.length_map, hln, Nat.mul_one], .inr ⟨g, c, cur', rfl, hb, h3, hnc, hcm, by rw [h4, hcs], ?_⟩⟩
  have htk : cur.toList.take xs.length = xs.map fun n => Value.int .u8 n := by have := htake; simpa [encs] using this
  rw [h5, hl, Nat.mul_one]
  simp only [encs, List.map_append, List.map_take, List.map_drop, ← htk]
  have hm : (ys.map fun n => Value.int .u8 n).length = ys.length := List.length_map ..
  have := take3 cur.toList (ys.map fun n => Value.int .u8 n) i xs.length (by rw [hm]; exact hle) (by have e_ : cur.toList.length = cur.size := Array.length_toList; omega)
  rw [hm] at this
  exact this
theorem frmW_ (a b c : Int) : impl_from.f a b c = some (decide (b ≤ a ∧ a ≤ c)) := by
 unfold impl_from.f
 by_cases h : a ≥ b
 ·rw [if_pos h]; simp; omega
 ·rw [if_neg h]; simp; omega
def impl_WriteAt.f (k : Nat) (l0_0 : List S51) (a0_1 : Int) (a1 : ByteArray) (a2 : Int) (ld : List Int) : Option (List S51 × Int × Int) :=
 (impl_copyTab.f k l0_0 a0_1).bind fun t => (impl_ready.f k t.1 t.2 [a1]).bind fun b => if b = true ∧ decide (0 ≤ a2 ∧ a2 ≤ 100) = true then ((impl_fileAt.f k t.1 t.2 a1).bind fun x => if x.2.2.2.2.2.2 = 0 then (if ld.length ≤ 4611686018427387904 then (if a2 + (ld.length : Int) > 100 then some (t.1, t.2, 5) else ((impl_sized.f x.2.2.2.1 (max (x.2.2.2.1.length : Int) (a2 + (ld.length : Int)))).bind fun d => (impl_SetInode.f k t.1 t.2 x.1 x.2.1 x.2.2.1 (d.take a2.toNat ++ ld ++ d.drop (a2.toNat + ld.length)) x.2.2.2.2.1 x.2.2.2.2.2.1).bind fun s => some (s.1, s.2, 0))) else none) else some (t.1, t.2, x.2.2.2.2.2.2)) else some (t.1, t.2, 1)
set_option maxHeartbeats 4000000 in
set_option maxRecDepth 100000 in
theorem impl_WriteAt.calls (k : Nat) (A0_0 : Option Addr) (c0_0 : Nat) (l0_0 : List S51) (a0_1 : Int) (a1 : ByteArray) (a2 : Int) (AD : Option Addr) (cD : Nat) (ld : List Int) (r1 : List S51) (r2 r3 : Int) (w : World) (hr0_0 : Kd.C k51 w A0_0 l0_0.length l0_0) (hc0_0 : l0_0.length ≤ c0_0) (hrD : Kd.C (Kd.int .u8) w AD ld.length ld) (hcD : ld.length ≤ cD) (h : impl_WriteAt.f k l0_0 a0_1 a1 a2 ld = some (r1, r2, r3)) (hG : GOk w := by exact gk_ oB (by first | (with_reducible assumption) | assumption)) :
  Calls Tryz.prog 22 #[.agg #[.slice A0_0 l0_0.length c0_0, .int .i64 a0_1], .string a1, .int .i64 a2, .slice AD ld.length cD] w fun e w' => ∃ v0_ : Value, e = .returned (.tuple #[.agg #[v0_, .int .i64 r2], .int .i64 r3]) ∧ Kd.S k51 51 w' w.heap.size (fun _ => True) v0_ r1 ∧ Below w.heap.size w w' := by
 have HG := Aside0.mk hG
 have HR0 := Aside0.mk hr0_0
 have HC0 := Aside0.mk hc0_0
 have HRD := Aside0.mk hrD
 have HCD := Aside0.mk hcD
 clear hrD hcD
 clear hG hr0_0 hc0_0
 unfold impl_WriteAt.f at h
 replace h := bA h
 obtain ⟨⟨t1, t2⟩, H1, h⟩ := h
 dsimp only at h
 replace h := bA h
 obtain ⟨b, H2, h⟩ := h
 have H := Aside0.mk h
 have HF := Aside0.mk (frmW_ a2 0 100)
 clear h
 have HB := Aside0.mk (Below.refl w.heap.size w)
 go_enter Tryz.func22, Tryz.ntmps22
 go_upto_region 2 with (first | ((with_reducible refine gate_dst (N := 4) rfl ?_); refine bx_ 4 #[.slice A0_0 l0_0.length c0_0, .int .i64 a0_1] 26 ?_; intro gb3 hg w1 hbox hb; have BK3 := Aside0.mk hbox; have GW3 := gs_ hg; replace HB := Aside0.mk (below_step oB hb); clear hb hbox hg) | ((with_reducible refine gate_dst (N := 8) rfl ?_); refine bx_ 8 #[.slice none 0 0, .int .i64 0] 26 ?_; intro gb6 hg w2 hbox hb; have BK6 := Aside0.mk hbox; have GW6 := gs_ hg; have NB36 := nl_ hg BK3; have NB63 := nr_ hg BK3; replace BK3 := kb_ BK3 hb; replace HB := Aside0.mk (below_step oB hb); clear hb hbox hg; obtain ⟨⟨_, _⟩, _, _⟩ := z2 BK3) | ((with_reducible refine gate_callee (f := 45) rfl ?_); refine gl_ 13 Tryz.func45 (impl_copyTab.calls k _ _ l0_0 a0_1 t1 t2 _ (kC HR0) HC0.out H1.out) ?_; rintro e w3 ⟨v0, rfl, hs, hb⟩; refine ⟨_, rfl, ?_⟩; obtain ⟨At, ct, rfl⟩ := Kd.S_slice hs; have HS := siv' hs _ w.heap.size (Nat.le_refl _) (below_size oB); have l3 := Aside0.mk (blk_lt (oF BK3)); have l6 := Aside0.mk (blk_lt (oF BK6)); replace BK3 := kb_ BK3 hb; replace BK6 := kb_ BK6 hb; replace HB := Aside0.mk (below_step oB hb); clear hs hb; obtain ⟨⟨_, _⟩, _, _⟩ := z2 BK3))
 have n3_ : Aside0 (((w3.setCell ⟨gb3, 0, none⟩ (.slice At t1.length ct)).setCell ⟨gb3, 1, none⟩ (.int .i64 t2)).heap[gb3]? = some (.cells #[.slice At t1.length ct, .int .i64 t2] 26 (0, 0))) := ⟨oP BK3⟩
 have n4_ := Aside0.mk (Kd.S_mono (ok' := fun k_ => k_ ≠ gb3 ∧ k_ ≠ gb6) (Kd.S_far (p := ⟨gb3, 1, none⟩) (Kd.S_far (p := ⟨gb3, 0, none⟩) HS.out (fun k_ hk => by have := hk.1; have := l3.out; dsimp only; omega) (.slice At t1.length ct)) (fun k_ hk => by have := hk.1; have := l3.out; dsimp only; omega) (.int .i64 t2)) (fun k_ hk => by have := hk.1; have := l3.out; have := l6.out; exact ⟨by omega, by omega⟩))
 generalize hW_ : (w3.setCell ⟨gb3, 0, none⟩ (.slice At t1.length ct)).setCell ⟨gb3, 1, none⟩ (.int .i64 t2) = w4 at n3_ n4_ ⊢
 replace BK6 := kw_ hW_ BK6
 replace HB := hw_ hW_ HB
 clear BK3 HS hW_ l3 l6
 have BK3 := n3_
 have HS := n4_
 clear n3_ n4_
 obtain ⟨⟨_, _⟩, _, _⟩ := z2 BK3
 rcases (by cases b <;> cases (decide (0 ≤ a2 ∧ a2 ≤ 100)) <;> simp : b = false ∨ (b = true ∧ decide (0 ≤ a2 ∧ a2 ≤ 100) = false) ∨ (b = true ∧ decide (0 ≤ a2 ∧ a2 ≤ 100) = true)) with rfl | ⟨rfl, hd⟩ | ⟨rfl, hd⟩
 ·have h := H.out
  rw [if_neg (by simp)] at h
  simp only [Option.some.injEq, Prod.mk.injEq] at h
  obtain ⟨rfl, rfl, rfl⟩ := h
  clear H
  go_wp2_with (first | ((with_reducible refine gate_dst (N := 16) rfl ?_); refine Kd.R_lit Kd.string _ 9 ?hg (N := 16) ?hd (xs := ([a1] : List ByteArray)) (inner := [.string a1]) (ok := fun _ => True) (okp := fun _ => True) ?hr ?hp (fun _ hk => hk) trivial (Below.refl _ _) (Nat.le_refl _) (by simp) ?_; (case hd => rfl); (case hg => rfl); (case hr => first | (go_simp; done) | (go_simp; rfl)); (case hp => exact (Reps.one (show Kd.M Kd.string _ _ _ a1 [.string a1] from rfl) (Reps.none _ _))); intro v14 w5 ho hb hg_ hnew_; clear hg_ hnew_; obtain ⟨Aa, ca, rfl⟩ := Kd.R_slice ho; have HO14 := Aside0.mk ho; replace HS := Aside0.mk (Kd.S_below HS.out hb); replace BK3 := kb_ BK3 hb; replace BK6 := kb_ BK6 hb; replace HB := Aside0.mk (below_step oB hb); clear hb ho) | ((with_reducible refine gate_callee (f := 46) rfl ?_); refine gl_ 17 Tryz.func46 (impl_ready.calls k _ _ t1 t2 _ _ [a1] false _ (rS HS) (rl HS) (kO HO14) (ko HO14) H2.out) ?_; rintro e w6 ⟨rfl, hb⟩; refine ⟨_, rfl, ?_⟩; replace HS := Aside0.mk (Kd.S_below HS.out hb); replace BK3 := kb_ BK3 hb; replace BK6 := kb_ BK6 hb; replace HB := Aside0.mk (below_step oB hb); clear hb HO14; obtain ⟨⟨_, _⟩, _, _⟩ := z2 BK3; obtain ⟨⟨_, _⟩, _, _⟩ := z2 BK6))
  try simp only [Exit.inBlock, Exit.then]
  refine bodyPost_ret (results_ct rfl _ _ gb6 26 #[.slice At t1.length ct, .int .i64 t2] (0, 0) _ rfl (oP BK6) Tryz.underlying26 rfl (by kernel_rfl)) rfl ?_
  exact ⟨_, rfl, Kd.S_mono (ok := fun k_ => k_ ≠ gb3 ∧ k_ ≠ gb6) (by repeat (first | exact HS.out | refine Kd.S_far ?_ (fun _ hk => hk.2) _ | apply Kd.S_alloc | apply Kd.S_drewN | apply Kd.S_drew)) (fun _ _ => trivial), oB⟩
 ·have h := H.out
  rw [if_neg (by simp [hd])] at h
  simp only [Option.some.injEq, Prod.mk.injEq] at h
  obtain ⟨rfl, rfl, rfl⟩ := h
  have HD := Aside0.mk hd
  clear H hd
  go_wp2_with (first | ((with_reducible refine gate_dst (N := 16) rfl ?_); refine Kd.R_lit Kd.string _ 9 ?hg (N := 16) ?hd (xs := ([a1] : List ByteArray)) (inner := [.string a1]) (ok := fun _ => True) (okp := fun _ => True) ?hr ?hp (fun _ hk => hk) trivial (Below.refl _ _) (Nat.le_refl _) (by simp) ?_; (case hd => rfl); (case hg => rfl); (case hr => first | (go_simp; done) | (go_simp; rfl)); (case hp => exact (Reps.one (show Kd.M Kd.string _ _ _ a1 [.string a1] from rfl) (Reps.none _ _))); intro v14 w5 ho hb hg_ hnew_; clear hg_ hnew_; obtain ⟨Aa, ca, rfl⟩ := Kd.R_slice ho; have HO14 := Aside0.mk ho; replace HS := Aside0.mk (Kd.S_below HS.out hb); replace BK3 := kb_ BK3 hb; replace BK6 := kb_ BK6 hb; replace HB := Aside0.mk (below_step oB hb); clear hb ho) | ((with_reducible refine gate_callee (f := 46) rfl ?_); refine gl_ 17 Tryz.func46 (impl_ready.calls k _ _ t1 t2 _ _ [a1] true _ (rS HS) (rl HS) (kO HO14) (ko HO14) H2.out) ?_; rintro e w6 ⟨rfl, hb⟩; refine ⟨_, rfl, ?_⟩; replace HS := Aside0.mk (Kd.S_below HS.out hb); replace BK3 := kb_ BK3 hb; replace BK6 := kb_ BK6 hb; replace HB := Aside0.mk (below_step oB hb); clear hb HO14; obtain ⟨⟨_, _⟩, _, _⟩ := z2 BK3; obtain ⟨⟨_, _⟩, _, _⟩ := z2 BK6) | (go_at_call 47; refine (impl_from.calls a2 0 100 _ _ HF.out).mono ?_; rintro e w' ⟨rfl, ⟨nd, rfl⟩⟩; rw [HD.out]))
  try simp only [Exit.inBlock, Exit.then]
  refine bodyPost_ret (results_ct rfl _ _ gb6 26 #[.slice At t1.length ct, .int .i64 t2] (0, 0) _ rfl (oP BK6) Tryz.underlying26 rfl (by kernel_rfl)) rfl ?_
  exact ⟨_, rfl, Kd.S_mono (ok := fun k_ => k_ ≠ gb3 ∧ k_ ≠ gb6) (by repeat (first | exact HS.out | refine Kd.S_far ?_ (fun _ hk => hk.2) _ | apply Kd.S_alloc | apply Kd.S_drewN | apply Kd.S_drew)) (fun _ _ => trivial), oB⟩
 ·have h := H.out
  rw [if_pos ⟨rfl, hd⟩] at h
  have HD := Aside0.mk hd
  clear hd H
  replace h := bA h
  obtain ⟨⟨x1, x2, x3, x4, x5, x6, x7⟩, H3, h⟩ := h
  dsimp only at h
  have HH := Aside0.mk h
  clear h
  go_upto_if 32 with (first | ((with_reducible refine gate_dst (N := 16) rfl ?_); refine Kd.R_lit Kd.string _ 9 ?hg (N := 16) ?hd (xs := ([a1] : List ByteArray)) (inner := [.string a1]) (ok := fun _ => True) (okp := fun _ => True) ?hr ?hp (fun _ hk => hk) trivial (Below.refl _ _) (Nat.le_refl _) (by simp) ?_; (case hd => rfl); (case hg => rfl); (case hr => first | (go_simp; done) | (go_simp; rfl)); (case hp => exact (Reps.one (show Kd.M Kd.string _ _ _ a1 [.string a1] from rfl) (Reps.none _ _))); intro v14 w5 ho hb hg_ hnew_; clear hg_ hnew_; obtain ⟨Aa, ca, rfl⟩ := Kd.R_slice ho; have HO14 := Aside0.mk ho; replace HS := Aside0.mk (Kd.S_below HS.out hb); replace BK3 := kb_ BK3 hb; replace BK6 := kb_ BK6 hb; replace HB := Aside0.mk (below_step oB hb); clear hb ho) | ((with_reducible refine gate_callee (f := 46) rfl ?_); refine gl_ 17 Tryz.func46 (impl_ready.calls k _ _ t1 t2 _ _ [a1] true _ (rS HS) (rl HS) (kO HO14) (ko HO14) H2.out) ?_; rintro e w6 ⟨rfl, hb⟩; refine ⟨_, rfl, ?_⟩; replace HS := Aside0.mk (Kd.S_below HS.out hb); replace BK3 := kb_ BK3 hb; replace BK6 := kb_ BK6 hb; replace HB := Aside0.mk (below_step oB hb); clear hb HO14; obtain ⟨⟨_, _⟩, _, _⟩ := z2 BK3; obtain ⟨⟨_, _⟩, _, _⟩ := z2 BK6) | (go_at_call 47; refine (impl_from.calls a2 0 100 _ _ HF.out).mono ?_; rintro e w' ⟨rfl, ⟨nd, rfl⟩⟩; rw [HD.out]) | ((with_reducible refine gate_callee (f := 48) rfl ?_); refine gl_ 28 Tryz.func48 (impl_fileAt.calls k _ _ t1 t2 a1 x1 x2 x3 x4 x5 x6 x7 _ (rS HS) (rl HS) H3.out) ?_; rintro e w7 ⟨v3, v4, v5, rfl, ho3, ho4, ho5, hb⟩; refine ⟨_, rfl, ?_⟩; have HO3 := Aside0.mk (Kd.R_lower (Kd.R_newB (Kd.R_newB ho3 (oF BK3)) (oF BK6)) (below_size oB)); have HO4 := Aside0.mk (Kd.R_lower (Kd.R_newB (Kd.R_newB ho4 (oF BK3)) (oF BK6)) (below_size oB)); have HO5 := Aside0.mk (Kd.R_lower (Kd.R_newB (Kd.R_newB ho5 (oF BK3)) (oF BK6)) (below_size oB)); replace HS := beS0 HS hb; replace BK3 := kb_ BK3 hb; replace BK6 := kb_ BK6 hb; replace HB := Aside0.mk (below_step oB hb); clear hb ho3 ho4 ho5) | ((with_reducible refine gate_dst (N := 10) rfl ?_); refine bx_ 10 #[.int .i64 0, .int .i64 0, .int .i64 0, .slice none 0 0, .slice none 0 0, .slice none 0 0] 51 ?_; intro gb8 hg w8 hbox hb; have BK8 := Aside0.mk hbox; have GW8 := gs_ hg; have NB38 := nl_ hg BK3; have NB83 := nr_ hg BK3; have NB68 := nl_ hg BK6; have NB86 := nr_ hg BK6; replace HS := Aside0.mk (Kd.S_mono (ok' := fun k_ => k_ ≠ gb3 ∧ k_ ≠ gb6 ∧ k_ ≠ gb8) (Kd.S_below (Kd.S_bound HS.out) hb) (fun k_ hk => ⟨hk.1.1, hk.1.2, by rw [hg]; have := hk.2.2.1; omega⟩)); replace HO3 := kr_ HO3 hb; replace HO4 := kr_ HO4 hb; replace HO5 := kr_ HO5 hb; replace BK3 := kb_ BK3 hb; replace BK6 := kb_ BK6 hb; replace HB := Aside0.mk (below_step oB hb); clear hb hbox hg; obtain ⟨A3, c3, rfl⟩ := Kd.R_slice HO3.out; obtain ⟨A4, c4, rfl⟩ := Kd.R_slice HO4.out; obtain ⟨A5, c5, rfl⟩ := Kd.R_slice HO5.out; obtain ⟨⟨_, _, _, _, _, _⟩, _, _, _, _, _, _⟩ := z6 BK8))
  (try simp only [Act.put, List.setIfInBounds_toArray, List.set_cons_zero, List.set_cons_succ])
  obtain ⟨p1, p2, _⟩ := put6 BK8.out (.int .i64 x1) (.int .i64 x2) (.int .i64 x3) (.slice A3 x4.length c3) (.slice A4 x5.length c4) (.slice A5 x6.length c5)
  generalize hW_ : ((((((w8.setCell ⟨gb8, 0, none⟩ (.int .i64 x1)).setCell ⟨gb8, 1, none⟩ (.int .i64 x2)).setCell ⟨gb8, 2, none⟩ (.int .i64 x3)).setCell ⟨gb8, 3, none⟩ (.slice A3 x4.length c3)).setCell ⟨gb8, 4, none⟩ (.slice A4 x5.length c4)).setCell ⟨gb8, 5, none⟩ (.slice A5 x6.length c5)) = w9 at p1 p2 ⊢
  replace HO3 := Aside0.mk (Kd.R_step (Kd.R_types HO3.out BK8.out (by decide)) (fun k_ hk _ => p2 k_ hk.2))
  replace HO4 := Aside0.mk (Kd.R_step (Kd.R_types HO4.out BK8.out (by decide)) (fun k_ hk _ => p2 k_ hk.2))
  replace HO5 := Aside0.mk (Kd.R_step (Kd.R_types HO5.out BK8.out (by decide)) (fun k_ hk _ => p2 k_ hk.2))
  replace HS := Aside0.mk (Kd.S_step HS.out (fun k_ hk _ => p2 k_ hk.2.2))
  replace BK3 := kw_ hW_ BK3
  replace BK6 := kw_ hW_ BK6
  replace HB := hw_ hW_ HB
  replace BK8 := Aside0.mk p1
  clear p1 p2 hW_
  obtain ⟨⟨_, _⟩, _, _⟩ := z2 BK3
  obtain ⟨⟨_, _⟩, _, _⟩ := z2 BK6
  obtain ⟨⟨_, _, _, _, _, _⟩, _, _, _, _, _, _⟩ := z6 BK8
  by_cases c7 : x7 = 0
  case neg =>
   have h := HH.out
   rw [if_neg c7] at h
   simp only [Option.some.injEq, Prod.mk.injEq] at h
   obtain ⟨rfl, rfl, rfl⟩ := h
   have c7b : (x7 != 0) = true := by simpa using c7
   rw [c7b]
   clear HH
   go_wp2
   try simp only [Exit.inBlock, Exit.then]
   refine bodyPost_ret (results_ct rfl _ _ gb6 26 #[.slice At t1.length ct, .int .i64 t2] (0, 0) _ rfl (oP BK6) Tryz.underlying26 rfl (by kernel_rfl)) rfl ?_
   exact ⟨_, rfl, Kd.S_mono (ok := fun k_ => k_ ≠ gb3 ∧ k_ ≠ gb6 ∧ k_ ≠ gb8) (by repeat (first | exact HS.out | refine Kd.S_far ?_ (fun _ hk => hk.2.1) _ | apply Kd.S_alloc | apply Kd.S_drewN | apply Kd.S_drew)) (fun _ _ => trivial), oB⟩
  case pos =>
   have c7b : (x7 != 0) = false := by simpa using c7
   rw [c7b]
   have h := HH.out
   rw [if_pos c7] at h
   split at h
   case isFalse => cases h
   case isTrue hll =>
   have HLL := Aside0.mk hll
   clear HH
   have hd2 := of_decide_eq_true HD.out
   have hw : wrap64 (a2 + (ld.length : Int)) = a2 + (ld.length : Int) := by unfold wrap64; omega
   split at h
   case isTrue hf =>
    simp only [Option.some.injEq, Prod.mk.injEq] at h
    obtain ⟨rfl, rfl, rfl⟩ := h
    have hfb : decide ((100 : Int) < a2 + (ld.length : Int)) = true := decide_eq_true (by omega)
    clear hf hd2
    go_upto_if 39 with (fail)
    (try rw [hw])
    (try rw [hfb])
    go_wp2
    try simp only [Exit.inBlock, Exit.then]
    refine bodyPost_ret (results_ct rfl _ _ gb6 26 #[.slice At t1.length ct, .int .i64 t2] (0, 0) _ rfl (oP BK6) Tryz.underlying26 rfl (by kernel_rfl)) rfl ?_
    exact ⟨_, rfl, Kd.S_mono (ok := fun k_ => k_ ≠ gb3 ∧ k_ ≠ gb6 ∧ k_ ≠ gb8) (by repeat (first | exact HS.out | refine Kd.S_far ?_ (fun _ hk => hk.2.1) _ | apply Kd.S_alloc | apply Kd.S_drewN | apply Kd.S_drew)) (fun _ _ => trivial), oB⟩
   case isFalse hf =>
   have hfb : decide ((100 : Int) < a2 + (ld.length : Int)) = false := decide_eq_false (by omega)
   replace h := bA h
   obtain ⟨d, H4, h⟩ := h
   replace h := bA h
   obtain ⟨⟨s1, s2⟩, H5, h⟩ := h
   dsimp only at h H4 H5
   simp only [Option.some.injEq, Prod.mk.injEq] at h
   obtain ⟨rfl, rfl, rfl⟩ := h
   obtain ⟨Y, hY⟩ : ∃ Y_ : List Int, Y_ = d.take a2.toNat ++ ld ++ d.drop (a2.toNat + ld.length) := ⟨_, rfl⟩
   rw [← hY] at H5
   have HY := Aside0.mk hY
   obtain ⟨ji, hji⟩ : ∃ j_ : Int, (if (x4.length : Int) < a2 + (ld.length : Int) then a2 + (ld.length : Int) else (x4.length : Int)) = j_ := ⟨_, rfl⟩
   have hjm : max (x4.length : Int) (a2 + (ld.length : Int)) = ji := by rw [← hji]; split <;> omega
   rw [hjm] at H4
   have hdl : d.length = ji.toNat := by
    have h4 := H4.out
    unfold impl_sized.f at h4
    split at h4
    case isFalse => cases h4
    case isTrue hq =>
     obtain rfl := Option.some.inj h4
     simp only [List.length_append, List.length_take, List.length_drop, List.length_replicate]
     omega
   have HDL := Aside0.mk (show a2.toNat + ld.length ≤ d.length by rw [hdl, ← hji]; split <;> omega)
   clear hdl hjm hY hd2
   go_upto_if 39 with (fail)
   (try rw [hw])
   (try rw [hfb])
   go_upto_region 10 with ((with_reducible refine gate_callee (f := 49) rfl ?_); refine gl_ 51 Tryz.func49 (impl_sized.calls _ _ x4 ji d _ (kO HO3) (ko HO3) H4.out) ?_; rintro e w10 ⟨vd, rfl, ho, hb⟩; refine ⟨_, rfl, ?_⟩; have HOd := Aside0.mk (Kd.R_lower (Kd.R_newB (Kd.R_newB (Kd.R_newB ho (oF BK3)) (oF BK6)) (oF BK8)) (below_size oB)); obtain ⟨Ad, cd, rfl⟩ := Kd.R_slice ho; replace HS := Aside0.mk (Kd.S_mono (ok' := fun k_ => (k_ ≠ gb3 ∧ k_ ≠ gb6 ∧ k_ ≠ gb8) ∧ some k_ ≠ (Value.slice Ad d.length cd).ownBlock) (Kd.S_below (Kd.S_bound HS.out) hb) (fun k_ hk => ⟨hk.1, fun he => by have := Kd.R_base ho k_ he.symm; have := hk.2.2.1; omega⟩)); replace HO4 := ke_ HO4 ho hb; replace HO5 := ke_ HO5 ho hb; replace BK3 := kb_ BK3 hb; replace BK6 := kb_ BK6 hb; replace BK8 := kb_ BK8 hb; replace HB := Aside0.mk (below_step oB hb); clear hb ho; obtain ⟨⟨_, _, _, _, _, _⟩, _, _, _, _, _, _⟩ := z6 BK8)
   have n8_ : Aside0 ((w10.setCell ⟨gb8, 3, none⟩ (.slice Ad d.length cd)).heap[gb8]? = some (.cells #[.int .i64 x1, .int .i64 x2, .int .i64 x3, .slice Ad d.length cd, .slice A4 x5.length c4, .slice A5 x6.length c5] 51 (0, 0))) := ⟨oP BK8⟩
   replace HOd := Aside0.mk (Kd.R_far (p := ⟨gb8, 3, none⟩) HOd.out (fun _ hk => hk.2) (.slice Ad d.length cd))
   replace HO4 := Aside0.mk (Kd.R_far (p := ⟨gb8, 3, none⟩) (Kd.R_types HO4.out BK8.out (by decide)) (fun _ hk => hk.2) (.slice Ad d.length cd))
   replace HO5 := Aside0.mk (Kd.R_far (p := ⟨gb8, 3, none⟩) (Kd.R_types HO5.out BK8.out (by decide)) (fun _ hk => hk.2) (.slice Ad d.length cd))
   replace HS := Aside0.mk (Kd.S_far (p := ⟨gb8, 3, none⟩) HS.out (fun _ hk => hk.1.2.2) (.slice Ad d.length cd))
   generalize hW_ : w10.setCell ⟨gb8, 3, none⟩ (.slice Ad d.length cd) = w11 at n8_ HOd HO4 HO5 HS ⊢
   replace BK3 := kw_ hW_ BK3
   replace BK6 := kw_ hW_ BK6
   replace HB := hw_ hW_ HB
   clear BK8 hW_
   obtain ⟨⟨_, _, _, _, _, _⟩, _, _, _, _, _, _⟩ := z6 n8_
   have hd2 := of_decide_eq_true HD.out
   have k0 : (0 ≤ a2) = True := eq_true hd2.1
   have k1 : (a2 ≤ (d.length : Int)) = True := eq_true (by have := HDL.out; omega)
   go_upto_region 11 with ((with_reducible refine gate_builtin (b := .copy) rfl ?_); refine wcopy (w0 := w) w.heap.size rfl (.tmp 56) (.tmp 57) 22 22 5 rfl Tryz.underlying22 (by kernel_rfl) Ad cd a2.toNat d ld AD cD _ rfl rfl (oR HOd) (kC HRD) HDL.out oB (below_size oB) ?_; intro w12 ho hb hg; rw [← HY.out] at ho; have hYl := Aside0.mk ((Kd.R_reads' ho).1); have hne := Aside0.mk (Kd.R_reads' ho).2.1; replace BK3 := Aside0.mk (blk_grown BK3.out hg (Kd.R_away HOd.out (fun _ hk => hk.1.1.2))); replace BK6 := Aside0.mk (blk_grown BK6.out hg (Kd.R_away HOd.out (fun _ hk => hk.1.2))); replace n8_ := Aside0.mk (blk_grown n8_.out hg (Kd.R_away HOd.out (fun _ hk => hk.2))); replace HO4 := Aside0.mk (Kd.R_grown HO4.out hg (fun _ hk => hk.1.2)); replace HO5 := Aside0.mk (Kd.R_grown HO5.out hg (fun _ hk => hk.1.2)); replace HS := Aside0.mk (Kd.S_step HS.out (fun k_ hk hlt => hg.block k_ hlt hk.2)); replace HB := Aside0.mk hb; replace HOd := Aside0.mk ho; clear ho hb hg)
   have hYd : d.length = Y.length := by rw [HY.out]; have := HDL.out; simp only [List.length_append, List.length_take, List.length_drop]; omega
   rw [hYd] at n8_ HOd
   clear hYd
   obtain ⟨⟨_, _⟩, _, _⟩ := z2 BK3
   obtain ⟨⟨_, _, _, _, _, _⟩, _, _, _, _, _, _⟩ := z6 n8_
   clear hw hfb hji k0 k1 hd2
   generalize (if cd = a2.toNat then Ad else Option.map (fun p => p.add a2.toNat) Ad) = AX_
   go_wp2_with ((with_reducible refine gate_callee (f := 50) rfl ?_); refine gl_ 61 Tryz.func50 (impl_SetInode.calls k _ _ t1 t2 x1 x2 x3 _ _ Y _ _ x5 _ _ x6 s1 s2 _ (rS HS) (rl HS) (kO HOd) (ko HOd) (kO HO4) (ko HO4) (kO HO5) (ko HO5) H5.out) ?_; rintro e w13 ⟨v0, rfl, hs, hb⟩; refine ⟨_, rfl, ?_⟩; obtain ⟨A0, c0, rfl⟩ := Kd.S_slice hs; have HS2 := siv' hs w12.heap.size w.heap.size (Nat.le_refl _) (below_size HB.out); have hl6 := Aside0.mk (blk_lt BK6.out); replace BK6 := kb_ BK6 hb; replace HB := Aside0.mk (below_step oB hb); clear hs hb; obtain ⟨⟨_, _⟩, _, _⟩ := z2 BK6)
   try simp only [Exit.inBlock, Exit.then]
   refine bodyPost_ret (results_ct rfl _ _ gb6 26 #[.slice A0 s1.length c0, .int .i64 s2] (0, 0) _ rfl (oP BK6) Tryz.underlying26 rfl (by kernel_rfl)) rfl ?_
   exact ⟨_, rfl, Kd.S_mono (Kd.S_far (Kd.S_far HS2.out (fun k_ hk => by have := hk.1; have := hl6.out; dsimp only; omega) _) (fun k_ hk => by have := hk.1; have := hl6.out; dsimp only; omega) _) (fun _ _ => trivial), oB⟩
/-! ### impl_MakeDir: function 14 -/
def impl_MakeDir.f (k : Nat) (l0_0 : List (S51)) (a0_1 : Int) (a1 : ByteArray) : Option ((List (S51)) × Int × Int) := (impl_makeAt.f k l0_0 a0_1 a1 2).bind fun bt396 => (some (bt396.1, bt396.2.1, bt396.2.2))
set_option maxHeartbeats 8000000 in
set_option maxRecDepth 100000 in
theorem impl_MakeDir.calls (k : Nat) (A0_0 : Option Addr) (c0_0 : Nat) (l0_0 : List (S51)) (a0_1 : Int) (a1 : ByteArray) (r1 : List (S51)) (r2 : Int) (r3 : Int) (w : World) (hr0_0 : Kd.C k51 w A0_0 l0_0.length l0_0) (hc0_0 : l0_0.length ≤ c0_0) (h : impl_MakeDir.f k l0_0 a0_1 a1 = some (r1, r2, r3)) (hG : GOk w := by exact gk_ oB (by first | (with_reducible assumption) | assumption)) :
  Calls Tryz.prog 14 #[.agg #[.slice A0_0 l0_0.length c0_0, .int .i64 a0_1], .string a1] w fun e w' => ∃ v0_ : Value, e = .returned (.tuple #[.agg #[v0_, .int .i64 r2], .int .i64 r3]) ∧ Kd.S k51 51 w' w.heap.size (fun _ => True) v0_ r1 ∧ Below w.heap.size w w' := by
 have HG := Aside0.mk hG
 clear hG
 have hu26 := Tryz.underlying26
 have HR0_0 := Aside0.mk hr0_0
 have HC0_0 := Aside0.mk hc0_0
 clear hr0_0 hc0_0
 have HB := Aside0.mk (Below.refl w.heap.size w)
 unfold impl_MakeDir.f at h
 have H := h
 clear h
 replace H := bA H
 obtain ⟨⟨t396, t399, t400⟩, A3, H⟩ := H
 try dsimp only at H
 simp only [Option.some.injEq, Prod.mk.injEq] at H
 obtain ⟨rfl, rfl, rfl⟩ := H
 go_enter Tryz.func14, Tryz.ntmps14
 go_wp2_with (first | ((with_reducible refine gate_dst (N := 2) rfl ?_); refine bx_ 2 #[.slice A0_0 l0_0.length c0_0, .int .i64 a0_1] 26 ?_; intro gb394 hg w4 hbox hb; have BK394 := Aside0.mk (hbox); have GW394 := gs_ hg; replace HB := Aside0.mk (below_step oB hb); clear hb hbox hg) | ((with_reducible refine gate_dst (N := 4) rfl ?_); refine bx_ 4 #[.slice none 0 0, .int .i64 0] 26 ?_; intro gb395 hg w5 hbox hb; have BK395 := Aside0.mk (hbox); have GW395 := gs_ hg; have NB394_395 := nl_ hg BK394; have NB395_394 := nr_ hg BK394; replace BK394 := kb_ BK394 hb; replace HB := Aside0.mk (below_step oB hb); clear hb hbox hg; have hnb6 := NB394_395.out; have hnc6 := NB395_394.out; obtain ⟨⟨_, _⟩, _, _⟩ := z2 BK394) | ((with_reducible refine gate_callee (f := 35) rfl ?_); refine gl_ 8 Tryz.func35 (impl_makeAt.calls k _ _ l0_0 a0_1 a1 2 t396 t399 t400 _ (kC HR0_0) HC0_0.out A3.out) ?_; rintro e w8 ⟨v397, rfl, ho0, hb⟩; refine ⟨_, rfl, ?_⟩; have HO398 := Aside0.mk (Kd.S_lower ho0 (below_size oB)); replace BK394 := kb_ BK394 hb; replace BK395 := kb_ BK395 hb; replace HB := Aside0.mk (below_step oB hb); obtain ⟨Ao9, co9, eo9⟩ := Kd.S_slice HO398.out; subst eo9; obtain ⟨⟨_, _⟩, _, _⟩ := z2 BK395))
 refine bodyPost_ret (results_ct rfl _ _ gb395 26 #[.slice Ao9 t396.length co9, .int .i64 t399] (0, 0) _ rfl (oP BK395) Tryz.underlying26 rfl (by kernel_rfl)) rfl ?_
 exact ⟨_, oE, by (with_reducible repeat (first | apply Kd.S_alloc | apply Kd.S_drewN | apply Kd.S_drew)); exact Kd.S_mono (Kd.S_far (p := ⟨gb395, 1, none⟩) (Kd.S_far (p := ⟨gb395, 0, none⟩) (Kd.S_types HO398.out BK395.out (by decide)) (fun _ hk => hk.2) (.slice Ao9 t396.length co9)) (fun _ hk => hk.2) (.int .i64 t399)) (fun _ hk => trivial), oB⟩

/-! ### impl_MakeFile: function 15 -/
def impl_MakeFile.f (k : Nat) (l0_0 : List (S51)) (a0_1 : Int) (a1 : ByteArray) : Option ((List (S51)) × Int × Int) := (impl_makeAt.f k l0_0 a0_1 a1 1).bind fun bt403 => (some (bt403.1, bt403.2.1, bt403.2.2))
set_option maxHeartbeats 8000000 in
set_option maxRecDepth 100000 in
theorem impl_MakeFile.calls (k : Nat) (A0_0 : Option Addr) (c0_0 : Nat) (l0_0 : List (S51)) (a0_1 : Int) (a1 : ByteArray) (r1 : List (S51)) (r2 : Int) (r3 : Int) (w : World) (hr0_0 : Kd.C k51 w A0_0 l0_0.length l0_0) (hc0_0 : l0_0.length ≤ c0_0) (h : impl_MakeFile.f k l0_0 a0_1 a1 = some (r1, r2, r3)) (hG : GOk w := by exact gk_ oB (by first | (with_reducible assumption) | assumption)) :
  Calls Tryz.prog 15 #[.agg #[.slice A0_0 l0_0.length c0_0, .int .i64 a0_1], .string a1] w fun e w' => ∃ v0_ : Value, e = .returned (.tuple #[.agg #[v0_, .int .i64 r2], .int .i64 r3]) ∧ Kd.S k51 51 w' w.heap.size (fun _ => True) v0_ r1 ∧ Below w.heap.size w w' := by
 have HG := Aside0.mk hG
 clear hG
 have hu26 := Tryz.underlying26
 have HR0_0 := Aside0.mk hr0_0
 have HC0_0 := Aside0.mk hc0_0
 clear hr0_0 hc0_0
 have HB := Aside0.mk (Below.refl w.heap.size w)
 unfold impl_MakeFile.f at h
 have H := h
 clear h
 replace H := bA H
 obtain ⟨⟨t403, t406, t407⟩, A3, H⟩ := H
 try dsimp only at H
 simp only [Option.some.injEq, Prod.mk.injEq] at H
 obtain ⟨rfl, rfl, rfl⟩ := H
 go_enter Tryz.func15, Tryz.ntmps15
 go_wp2_with (first | ((with_reducible refine gate_dst (N := 2) rfl ?_); refine bx_ 2 #[.slice A0_0 l0_0.length c0_0, .int .i64 a0_1] 26 ?_; intro gb401 hg w4 hbox hb; have BK401 := Aside0.mk (hbox); have GW401 := gs_ hg; replace HB := Aside0.mk (below_step oB hb); clear hb hbox hg) | ((with_reducible refine gate_dst (N := 4) rfl ?_); refine bx_ 4 #[.slice none 0 0, .int .i64 0] 26 ?_; intro gb402 hg w5 hbox hb; have BK402 := Aside0.mk (hbox); have GW402 := gs_ hg; have NB401_402 := nl_ hg BK401; have NB402_401 := nr_ hg BK401; replace BK401 := kb_ BK401 hb; replace HB := Aside0.mk (below_step oB hb); clear hb hbox hg; have hnb6 := NB401_402.out; have hnc6 := NB402_401.out; obtain ⟨⟨_, _⟩, _, _⟩ := z2 BK401) | ((with_reducible refine gate_callee (f := 35) rfl ?_); refine gl_ 8 Tryz.func35 (impl_makeAt.calls k _ _ l0_0 a0_1 a1 1 t403 t406 t407 _ (kC HR0_0) HC0_0.out A3.out) ?_; rintro e w8 ⟨v404, rfl, ho0, hb⟩; refine ⟨_, rfl, ?_⟩; have HO405 := Aside0.mk (Kd.S_lower ho0 (below_size oB)); replace BK401 := kb_ BK401 hb; replace BK402 := kb_ BK402 hb; replace HB := Aside0.mk (below_step oB hb); obtain ⟨Ao9, co9, eo9⟩ := Kd.S_slice HO405.out; subst eo9; obtain ⟨⟨_, _⟩, _, _⟩ := z2 BK402))
 refine bodyPost_ret (results_ct rfl _ _ gb402 26 #[.slice Ao9 t403.length co9, .int .i64 t406] (0, 0) _ rfl (oP BK402) Tryz.underlying26 rfl (by kernel_rfl)) rfl ?_
 exact ⟨_, oE, by (with_reducible repeat (first | apply Kd.S_alloc | apply Kd.S_drewN | apply Kd.S_drew)); exact Kd.S_mono (Kd.S_far (p := ⟨gb402, 1, none⟩) (Kd.S_far (p := ⟨gb402, 0, none⟩) (Kd.S_types HO405.out BK402.out (by decide)) (fun _ hk => hk.2) (.slice Ao9 t403.length co9)) (fun _ hk => hk.2) (.int .i64 t406)) (fun _ hk => trivial), oB⟩

end Go.Proofs.YtkcfmbggdkkfeaaGreatDoor.P
