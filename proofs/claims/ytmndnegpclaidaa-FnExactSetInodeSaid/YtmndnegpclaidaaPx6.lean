-- By this session's own program (wip/myprint.py) out of the translation; Lean checks it.
import Derived.Test.YtmndnegpclaidaaPx0
import Derived.Test.YtmndnegpclaidaaPx1
import Derived.Test.YtmndnegpclaidaaPx2
import Derived.Test.YtmndnegpclaidaaPx3
import Derived.Test.YtmndnegpclaidaaPx4
import Derived.Test.YtmndnegpclaidaaPx5
namespace Go.Proofs.Ytmndnegpclaidaa.P
open Go.RowKit Go.Proofs.YtmndnegpclaidaaW.PrintWords Go.Proofs.YtmndnegpclaidaaW.PrintLast Go.Proofs.YtmndnegpclaidaaW.PrintMore
attribute [local go_sem] max2_int min2_int max_two min_two max_three min_three max_four min_four   -- for this text's walks alone
set_option linter.unusedVariables false
set_option linter.unusedSimpArgs false

/-! ### laws_FnExactSetInode: function 3 -/
section
variable {P : Program} {ops : Array Oper} {Q : Exit → Act → World → Prop} {md : Region.Mode} {S : World → Prop} {ds : List Nat} {T : Bool × List (List Nat × List Nat)} {B : List Nat}
theorem sd_ {id : Nat} {a : Act} {w : World} {T : Bool × List (List Nat × List Nat)} {B : List Nat} (n : Nat) (ds : List Nat) (S : World → Prop) (hT : rtab .any ops = T) (hB : waitsOk T.2 B = true) (hS : S w.drew)
  (h : S w.drew → Aside0 (rtab .any ops = T) → Aside0 (waitsOk T.2 B = true) → wpAnyLast P .any ops Q S ds n (lb n 0) a w.drew) (hm : P.follows .mixedOrders = true := by kernel_rfl) (hn : ops.size = n := by exact rfl) (hl : Array.replicate n false = lb n 0 := by exact rfl) : (Code.region id ops true).wp P Q a w :=
 start_ (lb n 0) hm hn hl hS (fun hh => h hh ⟨hT⟩ ⟨hB⟩)
theorem tw_ {n m : Nat} (i j : Nat) (Ni Nj : Tmp) {oi oj : Oper} {fuel : Nat} {a : Act} {w : World} (HT : Aside0 (rtab md ops = T))
  (h1 : ∀ K : Act → World → Prop, Shut (∀ a' w', S w' → (S w' → wpAnyLast P md ops Q S ds fuel (lb n (m ||| 1 <<< i)) a' w') → K a' w') → if Region.wanted oi (yielded ops a.tmps) = true then Oper.wp P oi a w K Q else K (a.put (some Ni) undef) w)
  (h2 : ∀ K : Act → World → Prop, Shut (∀ a' w', S w' → (S w' → wpAnyLast P md ops Q S ds fuel (lb n (m ||| 1 <<< j)) a' w') → K a' w') → if Region.wanted oj (yielded ops a.tmps) = true then Oper.wp P oj a w K Q else K (a.put (some Nj) undef) w)
  (hi : ops[i]? = some oi := by exact rfl) (hj : ops[j]? = some oj := by exact rfl) (hNi : oi.dst = some Ni := by exact rfl) (hNj : oj.dst = some Nj := by exact rfl)
  (hc : (readyT T.2 (lb n m).toList == [i, j] && (lb n m).toList.set i true == (lb n (m ||| 1 <<< i)).toList && (lb n m).toList.set j true == (lb n (m ||| 1 <<< j)).toList) = true := by kernel_rfl) (hdi : i ∉ ds := by decide) (hdj : j ∉ ds := by decide) : wpAnyLast P md ops Q S ds (fuel + 1) (lb n m) a w :=
 two_ _ _ hi hj hNi hNj (two_of HT.out hc) hdi hdj h1 h2
theorem ls_ {n m : Nat} (i : Nat) {oi : Oper} {fuel : Nat} {a : Act} {w : World} (HT : Aside0 (rtab md ops = T))
  (h : ∀ K : Act → World → Prop, Shut (∀ a' w', wpAnyLast P md ops Q S ds fuel (lb n (m ||| 1 <<< i)) a' w' → K a' w') → if Region.wanted oi (yielded ops a.tmps) = true then Oper.wp P oi a w K Q else K (a.put none undef) w)
  (hi : ops[i]? = some oi := by exact rfl) (hN : oi.dst = none := by exact rfl) (hc : (readyT T.2 (lb n m).toList == [i] && (lb n m).toList.set i true == (lb n (m ||| 1 <<< i)).toList) = true := by kernel_rfl) (hd : i ∈ ds := by decide) : wpAnyLast P md ops Q S ds (fuel + 1) (lb n m) a w :=
 last_ _ hi hN (one_of HT.out hc) hd h
end
section
variable {α : Type} {d : Kd α} {e base n : Nat} {ok : Nat → Prop} {w w1 : World} {A : Option Addr} {c : Nat} {v : Value} {xs : List α}
theorem nS (_ : Aside0 (Kd.N d e w base ok (.slice A n c) xs)) (hd : Kd.N d e w1 base ok (.slice A n c) xs := by (with_reducible repeat (first | apply Kd.N_alloc | apply Kd.N_drewN | apply Kd.N_drew)); exact Aside0.out (by first | (with_reducible assumption) | assumption)) : Kd.C d w1 A xs.length xs := (Kd.N_reads' hd).2.2
theorem nl (h : Aside0 (Kd.N d e w base ok (.slice A n c) xs)) : xs.length ≤ c := by have := (Kd.N_reads' h.out).1; have := (Kd.N_reads' h.out).2.1; omega
theorem nb (h : Aside0 (Kd.N d e w base ok v xs)) (hb : Below w.heap.size w w1) : Aside0 (Kd.N d e w1 base ok v xs) := ⟨Kd.N_below h.out hb⟩
theorem nk {S : Nat → Prop} (h : Aside0 (Kd.N d e w base ok v xs)) (hk : Kept w w1 S) (hn : ∀ k, ok k → ¬ S k) : Aside0 (Kd.N d e w1 base ok v xs) := ⟨Kd.N_kept h.out hk hn⟩
theorem ndrew (h : Aside0 (Kd.N d e w base ok v xs)) : Aside0 (Kd.N d e w.drew base ok v xs) := ⟨Kd.N_drew h.out⟩
theorem niv' (h : Kd.N d e w base (fun k => base ≤ k) v xs) (lo B : Nat) (hl : lo ≤ base) (hB : B ≤ base) : Aside0 (Kd.N d e w B (fun k => lo ≤ k ∧ k < w.heap.size) v xs) := ⟨Kd.N_lower (Kd.N_mono (Kd.N_bound h) (fun _ hk => ⟨Nat.le_trans hl hk.1, hk.2⟩)) hB⟩
theorem nbd (h : Aside0 (Kd.N d e w base ok v xs)) : Aside0 (Kd.N d e w base (fun k => ok k ∧ k < w.heap.size) v xs) := ⟨Kd.N_bound h.out⟩
theorem sbd (h : Aside0 (Kd.S d e w base ok v xs)) : Aside0 (Kd.S d e w base (fun k => ok k ∧ k < w.heap.size) v xs) := ⟨Kd.S_mono (Kd.S_bound h.out) (fun _ hk => ⟨hk.1, hk.2.2.1⟩)⟩
theorem rbd (h : Aside0 (Kd.R d e w base ok v xs)) : Aside0 (Kd.R d e w base (fun k => ok k ∧ k < w.heap.size) v xs) := ⟨Kd.R_mono (Kd.R_bound h.out) (fun _ hk => ⟨hk.1, hk.2.2.1⟩)⟩
theorem two_far_N {g : Nat} {a b : Value} (h : Aside0 (Kd.N d e w base ok v xs)) (hn : ∀ k, ok k → k ≠ g) : Aside0 (Kd.N d e ((w.setCell ⟨g, 0, none⟩ a).setCell ⟨g, 1, none⟩ b) base ok v xs) := ⟨Kd.N_step h.out (fun k hk _ => by rw [Below.heap_setCell _ _ _ _ (hn k hk), Below.heap_setCell _ _ _ _ (hn k hk)])⟩
theorem two_far_S {g : Nat} {a b : Value} (h : Aside0 (Kd.S d e w base ok v xs)) (hn : ∀ k, ok k → k ≠ g) : Aside0 (Kd.S d e ((w.setCell ⟨g, 0, none⟩ a).setCell ⟨g, 1, none⟩ b) base ok v xs) := ⟨Kd.S_step h.out (fun k hk _ => by rw [Below.heap_setCell _ _ _ _ (hn k hk), Below.heap_setCell _ _ _ _ (hn k hk)])⟩
theorem two_far_R {g : Nat} {a b : Value} (h : Aside0 (Kd.R d e w base ok v xs)) (hn : ∀ k, ok k → k ≠ g) : Aside0 (Kd.R d e ((w.setCell ⟨g, 0, none⟩ a).setCell ⟨g, 1, none⟩ b) base ok v xs) := ⟨Kd.R_step h.out (fun k hk _ => by rw [Below.heap_setCell _ _ _ _ (hn k hk), Below.heap_setCell _ _ _ _ (hn k hk)])⟩
theorem two_far_b {g g' : Nat} {o : Obj} {a b : Value} (h : Aside0 (w.heap[g']? = some o)) (hn : g' ≠ g) : Aside0 (((w.setCell ⟨g, 0, none⟩ a).setCell ⟨g, 1, none⟩ b).heap[g']? = some o) := ⟨by rw [Below.heap_setCell _ _ _ _ hn, Below.heap_setCell _ _ _ _ hn]; exact h.out⟩
theorem two_put {g : Nat} {t : TypeId} {a0 b0 : Value} (h : Aside0 (w.heap[g]? = some (.cells #[a0, b0] t (0, 0)))) (a b : Value) : Aside0 (((w.setCell ⟨g, 0, none⟩ a).setCell ⟨g, 1, none⟩ b).heap[g]? = some (.cells #[a, b] t (0, 0))) := ⟨blk_put (cs := #[a, b0]) (blk_put h.out 0 _ rfl) 1 _ rfl⟩
end

def laws_FnExactSetInode.T8 : Bool × List (List Nat × List Nat) := (true, [([], []), ([0], [0]), ([], []), ([2, 1], [2]), ([1, 3, 3], [1, 3]), ([], []), ([5, 4, 4, 0, 1, 2, 3, 4, 5], [4, 5])])
def laws_FnExactSetInode.B8 : List Nat := [0, 1, 0, 7, 15, 0, 63]
theorem laws_FnExactSetInode.tab8 : rtab .any (opsOf Try.f3 8) = laws_FnExactSetInode.T8 := by kernel_rfl
theorem laws_FnExactSetInode.bits8 : waitsOk laws_FnExactSetInode.T8.2 laws_FnExactSetInode.B8 = true := by kernel_rfl
def laws_FnExactSetInode.T14 : Bool × List (List Nat × List Nat) := (true, [([], []), ([], []), ([1], [1]), ([0, 2, 2], [0, 2]), ([3], [3])])
def laws_FnExactSetInode.B14 : List Nat := [0, 0, 2, 7, 15]
theorem laws_FnExactSetInode.tab14 : rtab .any (opsOf Try.f3 14) = laws_FnExactSetInode.T14 := by kernel_rfl
theorem laws_FnExactSetInode.bits14 : waitsOk laws_FnExactSetInode.T14.2 laws_FnExactSetInode.B14 = true := by kernel_rfl
def laws_FnExactSetInode.T16 : Bool × List (List Nat × List Nat) := (true, [([], []), ([], []), ([1], [1]), ([0, 2, 2], [0, 2]), ([3], [3])])
def laws_FnExactSetInode.B16 : List Nat := [0, 0, 2, 7, 15]
theorem laws_FnExactSetInode.tab16 : rtab .any (opsOf Try.f3 16) = laws_FnExactSetInode.T16 := by kernel_rfl
theorem laws_FnExactSetInode.bits16 : waitsOk laws_FnExactSetInode.T16.2 laws_FnExactSetInode.B16 = true := by kernel_rfl
def laws_FnExactSetInode.T31 : Bool × List (List Nat × List Nat) := (true, [([], []), ([0], [0]), ([], []), ([2, 1], [2]), ([1, 3, 3], [1, 3]), ([], []), ([5, 4, 4, 0, 1, 2, 3, 4, 5], [4, 5])])
def laws_FnExactSetInode.B31 : List Nat := [0, 1, 0, 7, 15, 0, 63]
theorem laws_FnExactSetInode.tab31 : rtab .any (opsOf Try.f3 31) = laws_FnExactSetInode.T31 := by kernel_rfl
theorem laws_FnExactSetInode.bits31 : waitsOk laws_FnExactSetInode.T31.2 laws_FnExactSetInode.B31 = true := by kernel_rfl
def laws_FnExactSetInode.f (k : Nat) (l0_0 : List S29) (a0_1 a1_0 a1_1 a1_2 : Int) (l1_3 : List Int) (l1_4 : List S93) (l1_5 : List S95) : Option Bool :=
 (laws_szTab.f k l0_0 a0_1 1048576).bind fun R => if R < 0 then some true else
 (laws_szInode.f k a1_0 a1_1 a1_2 l1_3 l1_4 l1_5 R).bind fun R2 => if R2 < 0 then some true else
 (laws_toTab.f k l0_0 a0_1).bind fun t => (laws_toInode.f k a1_0 a1_1 a1_2 l1_3 l1_4 l1_5).bind fun u => (spec_SetInode.f k t.1 t.2 u.1 u.2.1 u.2.2.1 u.2.2.2.1 u.2.2.2.2.1 u.2.2.2.2.2).bind fun p => (impl_SetInode.f k t.1 t.2 u.1 u.2.1 u.2.2.1 u.2.2.2.1 u.2.2.2.2.1 u.2.2.2.2.2).bind fun s =>
 (laws_eqTab.f k s.1 s.2 p.1 p.2).bind fun e1 => (laws_eqTab.f k t.1 t.2 t.1 t.2).bind fun e2 => (laws_eqInode.f k u.1 u.2.1 u.2.2.1 u.2.2.2.1 u.2.2.2.2.1 u.2.2.2.2.2 u.1 u.2.1 u.2.2.1 u.2.2.2.1 u.2.2.2.2.1 u.2.2.2.2.2).bind fun e3 => (laws_markInodeS.f k t.1 1).bind fun mt => (laws_markInode.f k u.1 u.2.1 u.2.2.1 u.2.2.2.1 u.2.2.2.2.1 u.2.2.2.2.2 mt.1).bind fun mi =>
 (laws_markInodeS.f k s.1 1).bind fun m => (laws_heldTab.f k m.2 s.2 1).bind fun q =>
 if e1 = true ∧ e2 = true ∧ e3 = true ∧ ¬ mi.1 < 0 ∧ ¬ q < 0 ∧ q = m.1 ∧ m.2.length = s.1.length then some true else none
set_option maxHeartbeats 8000000 in
set_option maxRecDepth 100000 in
theorem laws_FnExactSetInode.calls (k : Nat) (A0_0 : Option Addr) (c0_0 : Nat) (l0_0 : List S29) (a0_1 a1_0 a1_1 a1_2 : Int) (A1_3 : Option Addr) (c1_3 : Nat) (l1_3 : List Int) (A1_4 : Option Addr) (c1_4 : Nat) (l1_4 : List S93) (A1_5 : Option Addr) (c1_5 : Nat) (l1_5 : List S95) (r : Bool) (w : World) (hr0_0 : Kd.C k29 w A0_0 l0_0.length l0_0) (hc0_0 : l0_0.length ≤ c0_0) (hr1_3 : Kd.C (Kd.int .u8) w A1_3 l1_3.length l1_3) (hc1_3 : l1_3.length ≤ c1_3) (hr1_4 : Kd.C k93 w A1_4 l1_4.length l1_4) (hc1_4 : l1_4.length ≤ c1_4) (hr1_5 : Kd.C k95 w A1_5 l1_5.length l1_5) (hc1_5 : l1_5.length ≤ c1_5) (h : laws_FnExactSetInode.f k l0_0 a0_1 a1_0 a1_1 a1_2 l1_3 l1_4 l1_5 = some r) :
  Calls Try.prog 3 #[.agg #[.slice A0_0 l0_0.length c0_0, .int .i64 a0_1], .agg #[.int .i64 a1_0, .int .i64 a1_1, .int .i64 a1_2, .slice A1_3 l1_3.length c1_3, .slice A1_4 l1_4.length c1_4, .slice A1_5 l1_5.length c1_5]] w fun e w' => e = .returned (.bool r) ∧ Below w.heap.size w w' := by
 have HR0_0 := Aside0.mk hr0_0
 have HC0_0 := Aside0.mk hc0_0
 clear hr0_0 hc0_0
 have HR1_3 := Aside0.mk hr1_3
 have HC1_3 := Aside0.mk hc1_3
 clear hr1_3 hc1_3
 have HR1_4 := Aside0.mk hr1_4
 have HC1_4 := Aside0.mk hc1_4
 clear hr1_4 hc1_4
 have HR1_5 := Aside0.mk hr1_5
 have HC1_5 := Aside0.mk hc1_5
 clear hr1_5 hc1_5
 have HB := Aside0.mk (Below.refl w.heap.size w)
 unfold laws_FnExactSetInode.f at h
 replace h := bA h
 obtain ⟨R, H1, h⟩ := h
 split at h
 case isTrue hR =>
  have cR : decide (R < 0) = true := decide_eq_true hR
  obtain rfl := Option.some.inj h
  clear h hR
  go_enter Try.func3, Try.ntmps3
  go_wp2_with fail
  refine (laws_szTab.calls k _ _ l0_0 a0_1 1048576 R _ (kC HR0_0) HC0_0.out H1.out).mono ?_
  rintro e w1 ⟨rfl, hb⟩
  replace HB := Aside0.mk (below_step oB hb)
  go_wp2
  go_ret
  exact ⟨rfl, oB⟩
 case isFalse hR =>
 have cR : decide (R < 0) = false := decide_eq_false hR
 clear hR
 replace h := bA h
 obtain ⟨R2, H1b, h⟩ := h
 split at h
 case isTrue hR =>
  have cR2 : decide (R2 < 0) = true := decide_eq_true hR
  obtain rfl := Option.some.inj h
  clear h hR
  go_enter Try.func3, Try.ntmps3
  go_wp2_with fail
  refine (laws_szTab.calls k _ _ l0_0 a0_1 1048576 R _ (kC HR0_0) HC0_0.out H1.out).mono ?_
  rintro e w1 ⟨rfl, hb⟩
  have n1 : w.heap.size + 2 ≤ w1.heap.size := by have := hb.size; simpa using this
  have K_aT := bnew2 hb
  have K_aX := bnew hb
  replace hb := bold (bold hb)
  simp only [World.size_alloc] at K_aX
  replace HB := Aside0.mk (below_step oB hb)
  clear hb
  have Z_aT := z2 K_aT
  have Y_aT := zz2 K_aT
  have Z_aX := z6 K_aX
  have Y_aX := zz6 K_aX
  go_wp2_with fail
  refine (laws_szInode.calls k a1_0 a1_1 a1_2 _ _ l1_3 _ _ l1_4 _ _ l1_5 R R2 _ (kC HR1_3) HC1_3.out (kC HR1_4) HC1_4.out (kC HR1_5) HC1_5.out H1b.out).mono ?_
  rintro e w2 ⟨rfl, hb⟩
  replace HB := Aside0.mk (below_step oB hb)
  go_wp2
  go_ret
  exact ⟨rfl, oB⟩
 case isFalse hR =>
 have cR2 : decide (R2 < 0) = false := decide_eq_false hR
 clear hR
 replace h := bA h
 obtain ⟨⟨tl, tn⟩, H2, h⟩ := h
 replace h := bA h
 obtain ⟨⟨u1, u2, u3, u4, u5, u6⟩, HU, h⟩ := h
 replace h := bA h
 obtain ⟨⟨p1, p2⟩, H3, h⟩ := h
 replace h := bA h
 obtain ⟨⟨s1, s2⟩, H4, h⟩ := h
 replace h := bA h
 obtain ⟨e1, H5, h⟩ := h
 replace h := bA h
 obtain ⟨e2, H6, h⟩ := h
 replace h := bA h
 obtain ⟨e3, H6b, h⟩ := h
 replace h := bA h
 obtain ⟨⟨mt, ml⟩, H7, h⟩ := h
 replace h := bA h
 obtain ⟨⟨mi, m4, m5, m6⟩, H7b, h⟩ := h
 replace h := bA h
 obtain ⟨⟨mk, mg⟩, H8, h⟩ := h
 replace h := bA h
 obtain ⟨q, H9, h⟩ := h
 split at h
 case isFalse => cases h
 case isTrue hh =>
 try dsimp only at hh
 obtain ⟨rfl, rfl, rfl, hmi, hq, rfl, l4⟩ := hh
 obtain rfl := Option.some.inj h
 clear h
 have cm : decide (mi < 0) = false := decide_eq_false hmi
 have cq : decide (q < 0) = false := decide_eq_false hq
 clear hmi hq
 have L4 := Aside0.mk l4
 clear l4
 try dsimp only at H3 H4 H5 H6 H6b H7 H7b H8 H9 L4
 go_enter Try.func3, Try.ntmps3
 go_wp2_with fail
 refine (laws_szTab.calls k _ _ l0_0 a0_1 1048576 R _ (kC HR0_0) HC0_0.out H1.out).mono ?_
 rintro e w1 ⟨rfl, hb⟩
 have n1 : w.heap.size + 2 ≤ w1.heap.size := by have := hb.size; simpa using this
 have K_aT := bnew2 hb
 have K_aX := bnew hb
 replace hb := bold (bold hb)
 simp only [World.size_alloc] at K_aX
 replace HB := Aside0.mk (below_step oB hb)
 clear hb
 have Z_aT := z2 K_aT
 have Y_aT := zz2 K_aT
 have Z_aX := z6 K_aX
 have Y_aX := zz6 K_aX
 go_wp2_with fail
 refine (laws_szInode.calls k a1_0 a1_1 a1_2 _ _ l1_3 _ _ l1_4 _ _ l1_5 R R2 _ (kC HR1_3) HC1_3.out (kC HR1_4) HC1_4.out (kC HR1_5) HC1_5.out H1b.out).mono ?_
 rintro e w2 ⟨rfl, hb⟩
 have n2 : w1.heap.size ≤ w2.heap.size := by have := hb.size; simpa using this
 replace K_aT := bstep K_aT hb
 replace K_aX := bstep K_aX hb
 replace HB := Aside0.mk (below_step oB hb)
 clear hb
 replace Z_aT := z2 K_aT
 replace Y_aT := zz2 K_aT
 replace Z_aX := z6 K_aX
 replace Y_aX := zz6 K_aX
 go_wp2_with fail
 replace K_aT := bdrew K_aT
 replace K_aX := bdrew K_aX
 replace HB := Aside0.mk (below_drew1 HB.out)
 have n3 : w2.heap.size ≤ w2.drew.heap.size := Nat.le_refl _
 clear Z_aT Y_aT Z_aX Y_aX
 refine sd_ 7 [6] (fun w' => w'.cell? ⟨w.heap.size, 0, none⟩ = some (.slice A0_0 l0_0.length c0_0) ∧ w'.cell? ⟨w.heap.size, 1, none⟩ = some (.int .i64 a0_1) ∧ w'.cell? ⟨w.heap.size + 1, 0, none⟩ = some (.int .i64 a1_0) ∧ w'.cell? ⟨w.heap.size + 1, 1, none⟩ = some (.int .i64 a1_1) ∧ w'.cell? ⟨w.heap.size + 1, 2, none⟩ = some (.int .i64 a1_2) ∧ w'.cell? ⟨w.heap.size + 1, 3, none⟩ = some (.slice A1_3 l1_3.length c1_3) ∧ w'.cell? ⟨w.heap.size + 1, 4, none⟩ = some (.slice A1_4 l1_4.length c1_4) ∧ w'.cell? ⟨w.heap.size + 1, 5, none⟩ = some (.slice A1_5 l1_5.length c1_5)) laws_FnExactSetInode.tab8 laws_FnExactSetInode.bits8 oH (fun hHeld HT_ HW_ => ?_)
 generalize w2.drew = w3 at HB hHeld n3 K_aT K_aX ⊢
 have lt_aT8 := blk_lt K_aT.out
 have lt_aX8 := blk_lt K_aX.out
 refine ta_ 0 24 HT_ HW_ hHeld ?_
 refine ta_ 2 26 HT_ HW_ hHeld ?_
 refine join_ (σ := Value × Value × Value × Nat) 1 (lb 7 63) (fun s => [(25, s.1), (27, s.2.1), (28, s.2.2.1), (6, .pointer (some ⟨s.2.2.2, 0, none⟩))]) (fun s W => Below w3.heap.size w3 W ∧ (∃ A c, s.2.2.1 = .agg #[.slice A p1.length c, .int .i64 p2] ∧ Kd.N k40 40 W w.heap.size (fun k => (w3.heap.size ≤ k ∧ k < W.heap.size) ∧ k ≠ s.2.2.2) (.slice A p1.length c) p1) ∧ W.heap[s.2.2.2]? = some (.cells #[.slice none 0 0, .int .i64 0] 34 (0, 0)) ∧ w3.heap.size ≤ s.2.2.2 ∧ s.2.2.2 < W.heap.size) ?_ ?_
 rotate_left
 ·intro hj
  have HBs := Aside0.mk (Below.refl w3.heap.size w3)
  refine tw_ 1 5 25 6 HT_ (fun K hK => ?_) (fun K hK => ?_)
  ·refine gr_ 25 Try.func10 (laws_toTab.calls k _ _ l0_0 a0_1 tl tn _ (kC HR0_0) HC0_0.out H2.out) ?_
   rintro e w4 ⟨v_yt, rfl, h_yt, hb⟩
   obtain ⟨A_yt, c_yt, rfl⟩ := Kd.S_slice h_yt
   have S_yt := siv' h_yt (w3.heap.size) w.heap.size (by simp) (below_size oB)
   clear h_yt
   refine ⟨_, rfl, ?_⟩
   have m4 : w3.heap.size ≤ w4.heap.size := by have := hb.size; simpa using this
   replace K_aT := bstep K_aT hb
   replace K_aX := bstep K_aX hb
   replace HB := Aside0.mk (below_step oB hb)
   replace HBs := Aside0.mk (below_then HBs.out HBs.out.size hb)
   clear hb hHeld
   refine hk_ hK 25 oH (fun hHeld => ?_)
   clear hK K
   refine tw_ 3 5 27 6 HT_ (fun K hK => ?_) (fun K hK => ?_)
   ·refine gr_ 27 Try.func11 (laws_toInode.calls k a1_0 a1_1 a1_2 _ _ l1_3 _ _ l1_4 _ _ l1_5 u1 u2 u3 u4 u5 u6 _ (kC HR1_3) HC1_3.out (kC HR1_4) HC1_4.out (kC HR1_5) HC1_5.out HU.out) ?_
    rintro e w5 ⟨v_yu3, v_yu4, v_yu5, rfl, h_yu3, h_yu4, h_yu5, hb⟩
    obtain ⟨A_yu3, c_yu3, rfl⟩ := Kd.R_slice h_yu3
    have S_yu3 := riv' h_yu3 (w4.heap.size) w.heap.size (by simp) (below_size oB)
    clear h_yu3
    obtain ⟨A_yu4, c_yu4, rfl⟩ := Kd.R_slice h_yu4
    have S_yu4 := riv' h_yu4 (w4.heap.size) w.heap.size (by simp) (below_size oB)
    clear h_yu4
    obtain ⟨A_yu5, c_yu5, rfl⟩ := Kd.R_slice h_yu5
    have S_yu5 := riv' h_yu5 (w4.heap.size) w.heap.size (by simp) (below_size oB)
    clear h_yu5
    refine ⟨_, rfl, ?_⟩
    have m5 : w4.heap.size ≤ w5.heap.size := by have := hb.size; simpa using this
    replace K_aT := bstep K_aT hb
    replace K_aX := bstep K_aX hb
    replace S_yt := sb S_yt hb
    replace HB := Aside0.mk (below_step oB hb)
    replace HBs := Aside0.mk (below_then HBs.out HBs.out.size hb)
    clear hb hHeld
    refine hk_ hK 27 oH (fun hHeld => ?_)
    clear hK K
    refine tw_ 4 5 28 6 HT_ (fun K hK => ?_) (fun K hK => ?_)
    ·refine gr_ 28 Try.func9 (spec_SetInode.calls k _ _ tl tn u1 u2 u3 _ _ u4 _ _ u5 _ _ u6 p1 p2 _ (rS S_yt) (rl S_yt) (kO S_yu3) (rlR S_yu3) (kO S_yu4) (rlR S_yu4) (kO S_yu5) (rlR S_yu5) H3.out) ?_
     rintro e w6 ⟨v_yr, rfl, h_yr, hb⟩
     obtain ⟨A_yr, c_yr, rfl⟩ := Kd.N_slice h_yr
     have S_yr := niv' h_yr (w5.heap.size) w.heap.size (by simp) (below_size oB)
     clear h_yr
     refine ⟨_, rfl, ?_⟩
     have m6 : w5.heap.size ≤ w6.heap.size := by have := hb.size; simpa using this
     replace K_aT := bstep K_aT hb
     replace K_aX := bstep K_aX hb
     replace S_yt := sb S_yt hb
     replace S_yu3 := rb S_yu3 hb
     replace S_yu4 := rb S_yu4 hb
     replace S_yu5 := rb S_yu5 hb
     replace HB := Aside0.mk (below_step oB hb)
     replace HBs := Aside0.mk (below_then HBs.out HBs.out.size hb)
     clear hb hHeld
     refine hk_ hK 28 oH (fun hHeld => ?_)
     clear hK K
     refine on_ 5 6 HT_ (fun K hK => ?_)
     refine value_ (v := .pointer (some ⟨w6.heap.size, 0, none⟩)) (w1 := w6.alloc (.cells #[.slice none 0 0, .int .i64 0] 34 (0, 0))) (by rfl) rfl (by first | (go_simp; done) | (go_simp; rfl)) ?_
     have hb : Below w6.heap.size w6 (w6.alloc (.cells #[.slice none 0 0, .int .i64 0] 34 (0, 0))) := below_alloc (Below.refl _ _) _
     have K_gb := Aside0.mk (blk_new w6 (.cells #[.slice none 0 0, .int .i64 0] 34 (0, 0)))
     have gh : w6.heap.size < (w6.alloc (.cells #[.slice none 0 0, .int .i64 0] 34 (0, 0))).heap.size := by simp
     generalize w6.alloc (.cells #[.slice none 0 0, .int .i64 0] 34 (0, 0)) = w7 at hb K_gb gh ⊢
     have m7 : w6.heap.size ≤ w7.heap.size := hb.size
     replace K_aT := bstep K_aT hb
     replace K_aX := bstep K_aX hb
     replace S_yt := sb S_yt hb
     replace S_yu3 := rb S_yu3 hb
     replace S_yu4 := rb S_yu4 hb
     replace S_yu5 := rb S_yu5 hb
     replace S_yr := nb S_yr hb
     replace HB := Aside0.mk (below_step oB hb)
     replace HBs := Aside0.mk (below_then HBs.out HBs.out.size hb)
     clear hb hHeld
     refine hk_ hK 6 oH (fun hHeld => ?_)
     clear hK K
     refine hj (_, _, _, w6.heap.size) _ ⟨HBs.out, ⟨_, _, rfl, ?_⟩, K_gb.out, ?_, ?_⟩
     ·(have := HBs.out.size; dsimp only; exact Kd.N_mono S_yr.out (fun k hk => by obtain ⟨h1, h2⟩ := hk; exact ⟨⟨by omega, by omega⟩, by omega⟩))
     ·(dsimp only; omega)
     ·(dsimp only; omega)
    ·refine value_ (v := .pointer (some ⟨w5.heap.size, 0, none⟩)) (w1 := w5.alloc (.cells #[.slice none 0 0, .int .i64 0] 34 (0, 0))) (by rfl) rfl (by first | (go_simp; done) | (go_simp; rfl)) ?_
     have hb : Below w5.heap.size w5 (w5.alloc (.cells #[.slice none 0 0, .int .i64 0] 34 (0, 0))) := below_alloc (Below.refl _ _) _
     have K_gb := Aside0.mk (blk_new w5 (.cells #[.slice none 0 0, .int .i64 0] 34 (0, 0)))
     have gh : w5.heap.size < (w5.alloc (.cells #[.slice none 0 0, .int .i64 0] 34 (0, 0))).heap.size := by simp
     generalize w5.alloc (.cells #[.slice none 0 0, .int .i64 0] 34 (0, 0)) = w8 at hb K_gb gh ⊢
     have m8 : w5.heap.size ≤ w8.heap.size := hb.size
     replace K_aT := bstep K_aT hb
     replace K_aX := bstep K_aX hb
     replace S_yt := sb S_yt hb
     replace S_yu3 := rb S_yu3 hb
     replace S_yu4 := rb S_yu4 hb
     replace S_yu5 := rb S_yu5 hb
     replace HB := Aside0.mk (below_step oB hb)
     replace HBs := Aside0.mk (below_then HBs.out HBs.out.size hb)
     clear hb hHeld
     refine hk_ hK 6 oH (fun hHeld => ?_)
     clear hK K
     refine on_ 4 28 HT_ (fun K hK => ?_)
     refine gr_ 28 Try.func9 (spec_SetInode.calls k _ _ tl tn u1 u2 u3 _ _ u4 _ _ u5 _ _ u6 p1 p2 _ (rS S_yt) (rl S_yt) (kO S_yu3) (rlR S_yu3) (kO S_yu4) (rlR S_yu4) (kO S_yu5) (rlR S_yu5) H3.out) ?_
     rintro e w9 ⟨v_yr, rfl, h_yr, hb⟩
     obtain ⟨A_yr, c_yr, rfl⟩ := Kd.N_slice h_yr
     have S_yr := niv' h_yr (w8.heap.size) w.heap.size (by simp) (below_size oB)
     clear h_yr
     refine ⟨_, rfl, ?_⟩
     have m9 : w8.heap.size ≤ w9.heap.size := by have := hb.size; simpa using this
     replace K_aT := bstep K_aT hb
     replace K_aX := bstep K_aX hb
     replace S_yt := sb S_yt hb
     replace S_yu3 := rb S_yu3 hb
     replace S_yu4 := rb S_yu4 hb
     replace S_yu5 := rb S_yu5 hb
     replace K_gb := bstep K_gb hb
     replace HB := Aside0.mk (below_step oB hb)
     replace HBs := Aside0.mk (below_then HBs.out HBs.out.size hb)
     clear hb hHeld
     refine hk_ hK 28 oH (fun hHeld => ?_)
     clear hK K
     refine hj (_, _, _, w5.heap.size) _ ⟨HBs.out, ⟨_, _, rfl, ?_⟩, K_gb.out, ?_, ?_⟩
     ·(have := HBs.out.size; dsimp only; exact Kd.N_mono S_yr.out (fun k hk => by obtain ⟨h1, h2⟩ := hk; exact ⟨⟨by omega, by omega⟩, by omega⟩))
     ·(dsimp only; omega)
     ·(dsimp only; omega)
   ·refine value_ (v := .pointer (some ⟨w4.heap.size, 0, none⟩)) (w1 := w4.alloc (.cells #[.slice none 0 0, .int .i64 0] 34 (0, 0))) (by rfl) rfl (by first | (go_simp; done) | (go_simp; rfl)) ?_
    have hb : Below w4.heap.size w4 (w4.alloc (.cells #[.slice none 0 0, .int .i64 0] 34 (0, 0))) := below_alloc (Below.refl _ _) _
    have K_gb := Aside0.mk (blk_new w4 (.cells #[.slice none 0 0, .int .i64 0] 34 (0, 0)))
    have gh : w4.heap.size < (w4.alloc (.cells #[.slice none 0 0, .int .i64 0] 34 (0, 0))).heap.size := by simp
    generalize w4.alloc (.cells #[.slice none 0 0, .int .i64 0] 34 (0, 0)) = w10 at hb K_gb gh ⊢
    have m10 : w4.heap.size ≤ w10.heap.size := hb.size
    replace K_aT := bstep K_aT hb
    replace K_aX := bstep K_aX hb
    replace S_yt := sb S_yt hb
    replace HB := Aside0.mk (below_step oB hb)
    replace HBs := Aside0.mk (below_then HBs.out HBs.out.size hb)
    clear hb hHeld
    refine hk_ hK 6 oH (fun hHeld => ?_)
    clear hK K
    refine on_ 3 27 HT_ (fun K hK => ?_)
    refine gr_ 27 Try.func11 (laws_toInode.calls k a1_0 a1_1 a1_2 _ _ l1_3 _ _ l1_4 _ _ l1_5 u1 u2 u3 u4 u5 u6 _ (kC HR1_3) HC1_3.out (kC HR1_4) HC1_4.out (kC HR1_5) HC1_5.out HU.out) ?_
    rintro e w11 ⟨v_yu3, v_yu4, v_yu5, rfl, h_yu3, h_yu4, h_yu5, hb⟩
    obtain ⟨A_yu3, c_yu3, rfl⟩ := Kd.R_slice h_yu3
    have S_yu3 := riv' h_yu3 (w10.heap.size) w.heap.size (by simp) (below_size oB)
    clear h_yu3
    obtain ⟨A_yu4, c_yu4, rfl⟩ := Kd.R_slice h_yu4
    have S_yu4 := riv' h_yu4 (w10.heap.size) w.heap.size (by simp) (below_size oB)
    clear h_yu4
    obtain ⟨A_yu5, c_yu5, rfl⟩ := Kd.R_slice h_yu5
    have S_yu5 := riv' h_yu5 (w10.heap.size) w.heap.size (by simp) (below_size oB)
    clear h_yu5
    refine ⟨_, rfl, ?_⟩
    have m11 : w10.heap.size ≤ w11.heap.size := by have := hb.size; simpa using this
    replace K_aT := bstep K_aT hb
    replace K_aX := bstep K_aX hb
    replace S_yt := sb S_yt hb
    replace K_gb := bstep K_gb hb
    replace HB := Aside0.mk (below_step oB hb)
    replace HBs := Aside0.mk (below_then HBs.out HBs.out.size hb)
    clear hb hHeld
    refine hk_ hK 27 oH (fun hHeld => ?_)
    clear hK K
    refine on_ 4 28 HT_ (fun K hK => ?_)
    refine gr_ 28 Try.func9 (spec_SetInode.calls k _ _ tl tn u1 u2 u3 _ _ u4 _ _ u5 _ _ u6 p1 p2 _ (rS S_yt) (rl S_yt) (kO S_yu3) (rlR S_yu3) (kO S_yu4) (rlR S_yu4) (kO S_yu5) (rlR S_yu5) H3.out) ?_
    rintro e w12 ⟨v_yr, rfl, h_yr, hb⟩
    obtain ⟨A_yr, c_yr, rfl⟩ := Kd.N_slice h_yr
    have S_yr := niv' h_yr (w11.heap.size) w.heap.size (by simp) (below_size oB)
    clear h_yr
    refine ⟨_, rfl, ?_⟩
    have m12 : w11.heap.size ≤ w12.heap.size := by have := hb.size; simpa using this
    replace K_aT := bstep K_aT hb
    replace K_aX := bstep K_aX hb
    replace S_yt := sb S_yt hb
    replace K_gb := bstep K_gb hb
    replace S_yu3 := rb S_yu3 hb
    replace S_yu4 := rb S_yu4 hb
    replace S_yu5 := rb S_yu5 hb
    replace HB := Aside0.mk (below_step oB hb)
    replace HBs := Aside0.mk (below_then HBs.out HBs.out.size hb)
    clear hb hHeld
    refine hk_ hK 28 oH (fun hHeld => ?_)
    clear hK K
    refine hj (_, _, _, w4.heap.size) _ ⟨HBs.out, ⟨_, _, rfl, ?_⟩, K_gb.out, ?_, ?_⟩
    ·(have := HBs.out.size; dsimp only; exact Kd.N_mono S_yr.out (fun k hk => by obtain ⟨h1, h2⟩ := hk; exact ⟨⟨by omega, by omega⟩, by omega⟩))
    ·(dsimp only; omega)
    ·(dsimp only; omega)
  ·refine value_ (v := .pointer (some ⟨w3.heap.size, 0, none⟩)) (w1 := w3.alloc (.cells #[.slice none 0 0, .int .i64 0] 34 (0, 0))) (by rfl) rfl (by first | (go_simp; done) | (go_simp; rfl)) ?_
   have hb : Below w3.heap.size w3 (w3.alloc (.cells #[.slice none 0 0, .int .i64 0] 34 (0, 0))) := below_alloc (Below.refl _ _) _
   have K_gb := Aside0.mk (blk_new w3 (.cells #[.slice none 0 0, .int .i64 0] 34 (0, 0)))
   have gh : w3.heap.size < (w3.alloc (.cells #[.slice none 0 0, .int .i64 0] 34 (0, 0))).heap.size := by simp
   generalize w3.alloc (.cells #[.slice none 0 0, .int .i64 0] 34 (0, 0)) = w13 at hb K_gb gh ⊢
   have m13 : w3.heap.size ≤ w13.heap.size := hb.size
   replace K_aT := bstep K_aT hb
   replace K_aX := bstep K_aX hb
   replace HB := Aside0.mk (below_step oB hb)
   replace HBs := Aside0.mk (below_then HBs.out HBs.out.size hb)
   clear hb hHeld
   refine hk_ hK 6 oH (fun hHeld => ?_)
   clear hK K
   refine on_ 1 25 HT_ (fun K hK => ?_)
   refine gr_ 25 Try.func10 (laws_toTab.calls k _ _ l0_0 a0_1 tl tn _ (kC HR0_0) HC0_0.out H2.out) ?_
   rintro e w14 ⟨v_yt, rfl, h_yt, hb⟩
   obtain ⟨A_yt, c_yt, rfl⟩ := Kd.S_slice h_yt
   have S_yt := siv' h_yt (w13.heap.size) w.heap.size (by simp) (below_size oB)
   clear h_yt
   refine ⟨_, rfl, ?_⟩
   have m14 : w13.heap.size ≤ w14.heap.size := by have := hb.size; simpa using this
   replace K_aT := bstep K_aT hb
   replace K_aX := bstep K_aX hb
   replace K_gb := bstep K_gb hb
   replace HB := Aside0.mk (below_step oB hb)
   replace HBs := Aside0.mk (below_then HBs.out HBs.out.size hb)
   clear hb hHeld
   refine hk_ hK 25 oH (fun hHeld => ?_)
   clear hK K
   refine on_ 3 27 HT_ (fun K hK => ?_)
   refine gr_ 27 Try.func11 (laws_toInode.calls k a1_0 a1_1 a1_2 _ _ l1_3 _ _ l1_4 _ _ l1_5 u1 u2 u3 u4 u5 u6 _ (kC HR1_3) HC1_3.out (kC HR1_4) HC1_4.out (kC HR1_5) HC1_5.out HU.out) ?_
   rintro e w15 ⟨v_yu3, v_yu4, v_yu5, rfl, h_yu3, h_yu4, h_yu5, hb⟩
   obtain ⟨A_yu3, c_yu3, rfl⟩ := Kd.R_slice h_yu3
   have S_yu3 := riv' h_yu3 (w14.heap.size) w.heap.size (by simp) (below_size oB)
   clear h_yu3
   obtain ⟨A_yu4, c_yu4, rfl⟩ := Kd.R_slice h_yu4
   have S_yu4 := riv' h_yu4 (w14.heap.size) w.heap.size (by simp) (below_size oB)
   clear h_yu4
   obtain ⟨A_yu5, c_yu5, rfl⟩ := Kd.R_slice h_yu5
   have S_yu5 := riv' h_yu5 (w14.heap.size) w.heap.size (by simp) (below_size oB)
   clear h_yu5
   refine ⟨_, rfl, ?_⟩
   have m15 : w14.heap.size ≤ w15.heap.size := by have := hb.size; simpa using this
   replace K_aT := bstep K_aT hb
   replace K_aX := bstep K_aX hb
   replace K_gb := bstep K_gb hb
   replace S_yt := sb S_yt hb
   replace HB := Aside0.mk (below_step oB hb)
   replace HBs := Aside0.mk (below_then HBs.out HBs.out.size hb)
   clear hb hHeld
   refine hk_ hK 27 oH (fun hHeld => ?_)
   clear hK K
   refine on_ 4 28 HT_ (fun K hK => ?_)
   refine gr_ 28 Try.func9 (spec_SetInode.calls k _ _ tl tn u1 u2 u3 _ _ u4 _ _ u5 _ _ u6 p1 p2 _ (rS S_yt) (rl S_yt) (kO S_yu3) (rlR S_yu3) (kO S_yu4) (rlR S_yu4) (kO S_yu5) (rlR S_yu5) H3.out) ?_
   rintro e w16 ⟨v_yr, rfl, h_yr, hb⟩
   obtain ⟨A_yr, c_yr, rfl⟩ := Kd.N_slice h_yr
   have S_yr := niv' h_yr (w15.heap.size) w.heap.size (by simp) (below_size oB)
   clear h_yr
   refine ⟨_, rfl, ?_⟩
   have m16 : w15.heap.size ≤ w16.heap.size := by have := hb.size; simpa using this
   replace K_aT := bstep K_aT hb
   replace K_aX := bstep K_aX hb
   replace K_gb := bstep K_gb hb
   replace S_yt := sb S_yt hb
   replace S_yu3 := rb S_yu3 hb
   replace S_yu4 := rb S_yu4 hb
   replace S_yu5 := rb S_yu5 hb
   replace HB := Aside0.mk (below_step oB hb)
   replace HBs := Aside0.mk (below_then HBs.out HBs.out.size hb)
   clear hb hHeld
   refine hk_ hK 28 oH (fun hHeld => ?_)
   clear hK K
   refine hj (_, _, _, w3.heap.size) _ ⟨HBs.out, ⟨_, _, rfl, ?_⟩, K_gb.out, ?_, ?_⟩
   ·(have := HBs.out.size; dsimp only; exact Kd.N_mono S_yr.out (fun k hk => by obtain ⟨h1, h2⟩ := hk; exact ⟨⟨by omega, by omega⟩, by omega⟩))
   ·(dsimp only; omega)
   ·(dsimp only; omega)
 rintro ⟨v25_, v27_, v28_, g_w0⟩ w17 hF
 dsimp only at hF
 obtain ⟨hb, ⟨A_w0, c_w0, rfl, S_w0⟩, K_w0, gl_w0, gh_w0⟩ := hF
 replace S_w0 := Aside0.mk S_w0
 replace K_w0 := Aside0.mk K_w0
 refine norm_ (a' := ?_) ?_ ?_
 rotate_left
 ·(simp only [putAll, Act.put, List.setIfInBounds_toArray, List.set_cons_zero, List.set_cons_succ]; rfl)
 have n17 : w3.heap.size ≤ w17.heap.size := hb.size
 replace K_aT := bstep K_aT hb
 replace K_aX := bstep K_aX hb
 replace HB := Aside0.mk (below_step oB hb)
 clear hb hHeld
 have Z_w0 := z2 K_w0
 refine ls_ 6 HT_ (fun K hK => ?_)
 refine skip_ (w1 := ?_) (by rfl) rfl ?_ ?_
 rotate_left
 ·(go_simp; rfl)
 refine hK.out _ _ ?_
 clear hK K
 refine dn_ HT_ ?_
 clear HT_ HW_ Z_w0
 replace K_aT := two_far_b (g := g_w0) (a := .slice A_w0 p1.length c_w0) (b := .int .i64 p2) K_aT (by omega)
 replace K_aX := two_far_b (g := g_w0) (a := .slice A_w0 p1.length c_w0) (b := .int .i64 p2) K_aX (by omega)
 replace K_w0 := two_put K_w0 (.slice A_w0 p1.length c_w0) (.int .i64 p2)
 replace S_w0 := two_far_N (g := g_w0) (a := .slice A_w0 p1.length c_w0) (b := .int .i64 p2) S_w0 (fun k hk => by omega)
 replace HB := Aside0.mk ((HB.out.setCell (p := ⟨g_w0, 0, none⟩) (by have := HB.out.size; dsimp only; omega) (.slice A_w0 p1.length c_w0)).setCell (p := ⟨g_w0, 1, none⟩) (by dsimp only; omega) (.int .i64 p2))
 have n18 : w17.heap.size ≤ ((w17.setCell ⟨g_w0, 0, none⟩ (.slice A_w0 p1.length c_w0)).setCell ⟨g_w0, 1, none⟩ (.int .i64 p2)).heap.size := by simp [World.setCell]
 generalize ((w17.setCell ⟨g_w0, 0, none⟩ (.slice A_w0 p1.length c_w0)).setCell ⟨g_w0, 1, none⟩ (.int .i64 p2)) = w18 at HB n18 K_aT K_aX K_w0 S_w0 ⊢
 have Z_aT := z2 K_aT
 have Y_aT := zz2 K_aT
 have Z_aX := z6 K_aX
 have Y_aX := zz6 K_aX
 have Z_w0 := z2 K_w0
 have Y_w0 := zz2 K_w0
 go_wp2_with fail
 refine (laws_toTab.calls k _ _ l0_0 a0_1 tl tn _ (kC HR0_0) HC0_0.out H2.out).mono ?_
 rintro e w19 ⟨v_x0, rfl, h_x0, hb⟩
 obtain ⟨A_x0, c_x0, rfl⟩ := Kd.S_slice h_x0
 have S_x0 := siv' h_x0 (w18.heap.size) w.heap.size (by simp) (below_size oB)
 clear h_x0
 have n19 : w18.heap.size ≤ w19.heap.size := by have := hb.size; simpa using this
 replace K_aT := bstep K_aT hb
 replace K_aX := bstep K_aX hb
 replace K_w0 := bstep K_w0 hb
 replace S_w0 := nb S_w0 hb
 replace HB := Aside0.mk (below_step oB hb)
 clear hb
 replace Z_aT := z2 K_aT
 replace Y_aT := zz2 K_aT
 replace Z_aX := z6 K_aX
 replace Y_aX := zz6 K_aX
 replace Z_w0 := z2 K_w0
 replace Y_w0 := zz2 K_w0
 go_wp2_with fail
 refine (laws_toInode.calls k a1_0 a1_1 a1_2 _ _ l1_3 _ _ l1_4 _ _ l1_5 u1 u2 u3 u4 u5 u6 _ (kC HR1_3) HC1_3.out (kC HR1_4) HC1_4.out (kC HR1_5) HC1_5.out HU.out).mono ?_
 rintro e w20 ⟨v_x13, v_x14, v_x15, rfl, h_x13, h_x14, h_x15, hb⟩
 obtain ⟨A_x13, c_x13, rfl⟩ := Kd.R_slice h_x13
 have S_x13 := riv' h_x13 (w19.heap.size + 1) w.heap.size (by simp) (below_size oB)
 clear h_x13
 obtain ⟨A_x14, c_x14, rfl⟩ := Kd.R_slice h_x14
 have S_x14 := riv' h_x14 (w19.heap.size + 1) w.heap.size (by simp) (below_size oB)
 clear h_x14
 obtain ⟨A_x15, c_x15, rfl⟩ := Kd.R_slice h_x15
 have S_x15 := riv' h_x15 (w19.heap.size + 1) w.heap.size (by simp) (below_size oB)
 clear h_x15
 have n20 : w19.heap.size + 1 ≤ w20.heap.size := by have := hb.size; simpa using this
 have K_x0 := bnew hb
 replace hb := bold hb
 replace K_aT := bstep K_aT hb
 replace K_aX := bstep K_aX hb
 replace K_w0 := bstep K_w0 hb
 replace S_w0 := nb S_w0 hb
 replace S_x0 := sb S_x0 hb
 replace HB := Aside0.mk (below_step oB hb)
 clear hb
 replace Z_aT := z2 K_aT
 replace Y_aT := zz2 K_aT
 replace Z_aX := z6 K_aX
 replace Y_aX := zz6 K_aX
 replace Z_w0 := z2 K_w0
 replace Y_w0 := zz2 K_w0
 have Z_x0 := z2 K_x0
 have Y_x0 := zz2 K_x0
 go_wp2_with fail
 refine (impl_SetInode.calls k _ _ tl tn u1 u2 u3 _ _ u4 _ _ u5 _ _ u6 s1 s2 _ (rS S_x0) (rl S_x0) (kO S_x13) (rlR S_x13) (kO S_x14) (rlR S_x14) (kO S_x15) (rlR S_x15) H4.out).mono ?_
 rintro e w21 ⟨v_g0, rfl, h_g0, hb⟩
 obtain ⟨A_g0, c_g0, rfl⟩ := Kd.S_slice h_g0
 have S_g0 := siv' h_g0 (w20.heap.size + 1) w.heap.size (by simp) (below_size oB)
 clear h_g0
 have n21 : w20.heap.size + 1 ≤ w21.heap.size := by have := hb.size; simpa using this
 have K_x1 := bnew hb
 replace hb := bold hb
 replace K_aT := bstep K_aT hb
 replace K_aX := bstep K_aX hb
 replace K_w0 := bstep K_w0 hb
 replace K_x0 := bstep K_x0 hb
 replace S_w0 := nb S_w0 hb
 replace S_x0 := sb S_x0 hb
 replace S_x13 := rb S_x13 hb
 replace S_x14 := rb S_x14 hb
 replace S_x15 := rb S_x15 hb
 replace HB := Aside0.mk (below_step oB hb)
 clear hb
 replace Z_aT := z2 K_aT
 replace Y_aT := zz2 K_aT
 replace Z_aX := z6 K_aX
 replace Y_aX := zz6 K_aX
 replace Z_w0 := z2 K_w0
 replace Y_w0 := zz2 K_w0
 replace Z_x0 := z2 K_x0
 replace Y_x0 := zz2 K_x0
 have Z_x1 := z6 K_x1
 have Y_x1 := zz6 K_x1
 go_wp2_with fail
 refine (laws_eqTab.calls k _ _ s1 s2 _ _ p1 p2 true _ (rS S_g0) (rl S_g0) (nS S_w0) (nl S_w0) H5.out).mono ?_
 rintro e w22 ⟨rfl, hb⟩
 have n22 : w21.heap.size + 1 ≤ w22.heap.size := by have := hb.size; simpa using this
 have K_g0 := bnew hb
 replace hb := bold hb
 replace K_aT := bstep K_aT hb
 replace K_aX := bstep K_aX hb
 replace K_w0 := bstep K_w0 hb
 replace K_x0 := bstep K_x0 hb
 replace K_x1 := bstep K_x1 hb
 replace S_w0 := nb S_w0 hb
 replace S_x0 := sb S_x0 hb
 replace S_x13 := rb S_x13 hb
 replace S_x14 := rb S_x14 hb
 replace S_x15 := rb S_x15 hb
 replace S_g0 := sb S_g0 hb
 replace HB := Aside0.mk (below_step oB hb)
 clear hb
 replace Z_aT := z2 K_aT
 replace Y_aT := zz2 K_aT
 replace Z_aX := z6 K_aX
 replace Y_aX := zz6 K_aX
 replace Z_w0 := z2 K_w0
 replace Y_w0 := zz2 K_w0
 replace Z_x0 := z2 K_x0
 replace Y_x0 := zz2 K_x0
 replace Z_x1 := z6 K_x1
 replace Y_x1 := zz6 K_x1
 have Z_g0 := z2 K_g0
 have Y_g0 := zz2 K_g0
 go_wp2_with fail
 replace K_aT := bdrew K_aT
 replace K_aX := bdrew K_aX
 replace K_w0 := bdrew K_w0
 replace K_x0 := bdrew K_x0
 replace K_x1 := bdrew K_x1
 replace K_g0 := bdrew K_g0
 replace S_w0 := ndrew S_w0
 replace S_x0 := sdrew S_x0
 replace S_x13 := rdrew S_x13
 replace S_x14 := rdrew S_x14
 replace S_x15 := rdrew S_x15
 replace S_g0 := sdrew S_g0
 replace HB := Aside0.mk (below_drew1 HB.out)
 have n23 : w22.heap.size ≤ w22.drew.heap.size := Nat.le_refl _
 clear Z_aT Y_aT Z_aX Y_aX Z_w0 Y_w0 Z_x0 Y_x0 Z_x1 Y_x1 Z_g0 Y_g0
 refine st_ 5 (fun w' => w'.cell? ⟨w19.heap.size, 0, none⟩ = some (.slice A_x0 tl.length c_x0) ∧ w'.cell? ⟨w19.heap.size, 1, none⟩ = some (.int .i64 tn) ∧ w'.cell? ⟨w.heap.size, 0, none⟩ = some (.slice A0_0 l0_0.length c0_0) ∧ w'.cell? ⟨w.heap.size, 1, none⟩ = some (.int .i64 a0_1)) laws_FnExactSetInode.tab14 laws_FnExactSetInode.bits14 oH (fun hHeld HT_ HW_ => ?_)
 generalize w22.drew = w23 at HB hHeld n23 K_aT K_aX K_w0 K_x0 K_x1 K_g0 S_w0 S_x0 S_x13 S_x14 S_x15 S_g0 ⊢
 refine ta_ 0 40 HT_ HW_ hHeld ?_
 refine ta_ 1 41 HT_ HW_ hHeld ?_
 refine on_ 2 42 HT_ (fun K hK => ?_)
 refine gr_ 42 Try.func10 (laws_toTab.calls k _ _ l0_0 a0_1 tl tn _ (kC HR0_0) HC0_0.out H2.out) ?_
 rintro e w24 ⟨v_y0, rfl, h_y0, hb⟩
 obtain ⟨A_y0, c_y0, rfl⟩ := Kd.S_slice h_y0
 have S_y0 := siv' h_y0 (w23.heap.size) w.heap.size (by simp) (below_size oB)
 clear h_y0
 refine ⟨_, rfl, ?_⟩
 have n24 : w23.heap.size ≤ w24.heap.size := by have := hb.size; simpa using this
 replace K_aT := bstep K_aT hb
 replace K_aX := bstep K_aX hb
 replace K_w0 := bstep K_w0 hb
 replace K_x0 := bstep K_x0 hb
 replace K_x1 := bstep K_x1 hb
 replace K_g0 := bstep K_g0 hb
 replace S_w0 := nb S_w0 hb
 replace S_x0 := sb S_x0 hb
 replace S_x13 := rb S_x13 hb
 replace S_x14 := rb S_x14 hb
 replace S_x15 := rb S_x15 hb
 replace S_g0 := sb S_g0 hb
 replace HB := Aside0.mk (below_step oB hb)
 clear hb hHeld
 refine hk_ hK 42 oH (fun hHeld => ?_)
 clear hK K
 refine on_ 3 43 HT_ (fun K hK => ?_)
 refine gr_ 43 Try.func13 (laws_eqTab.calls k _ _ tl tn _ _ tl tn true _ (rS S_x0) (rl S_x0) (rS S_y0) (rl S_y0) H6.out) ?_
 rintro e w25 ⟨rfl, hb⟩
 refine ⟨_, rfl, ?_⟩
 have n25 : w24.heap.size ≤ w25.heap.size := by have := hb.size; simpa using this
 replace K_aT := bstep K_aT hb
 replace K_aX := bstep K_aX hb
 replace K_w0 := bstep K_w0 hb
 replace K_x0 := bstep K_x0 hb
 replace K_x1 := bstep K_x1 hb
 replace K_g0 := bstep K_g0 hb
 replace S_w0 := nb S_w0 hb
 replace S_x0 := sb S_x0 hb
 replace S_x13 := rb S_x13 hb
 replace S_x14 := rb S_x14 hb
 replace S_x15 := rb S_x15 hb
 replace S_g0 := sb S_g0 hb
 replace S_y0 := sb S_y0 hb
 replace HB := Aside0.mk (below_step oB hb)
 clear hb hHeld
 refine hk_ hK 43 oH (fun hHeld => ?_)
 clear hK K
 refine pu_ 4 44 HT_ ?_
 refine dn_ HT_ ?_
 clear hHeld HT_ HW_
 have Z_aT := z2 K_aT
 have Y_aT := zz2 K_aT
 have Z_aX := z6 K_aX
 have Y_aX := zz6 K_aX
 have Z_w0 := z2 K_w0
 have Y_w0 := zz2 K_w0
 have Z_x0 := z2 K_x0
 have Y_x0 := zz2 K_x0
 have Z_x1 := z6 K_x1
 have Y_x1 := zz6 K_x1
 have Z_g0 := z2 K_g0
 have Y_g0 := zz2 K_g0
 clear S_y0
 go_wp2_with fail
 replace K_aT := bdrew K_aT
 replace K_aX := bdrew K_aX
 replace K_w0 := bdrew K_w0
 replace K_x0 := bdrew K_x0
 replace K_x1 := bdrew K_x1
 replace K_g0 := bdrew K_g0
 replace S_w0 := ndrew S_w0
 replace S_x0 := sdrew S_x0
 replace S_x13 := rdrew S_x13
 replace S_x14 := rdrew S_x14
 replace S_x15 := rdrew S_x15
 replace S_g0 := sdrew S_g0
 replace HB := Aside0.mk (below_drew1 HB.out)
 have n26 : w25.heap.size ≤ w25.drew.heap.size := Nat.le_refl _
 clear Z_aT Y_aT Z_aX Y_aX Z_w0 Y_w0 Z_x0 Y_x0 Z_x1 Y_x1 Z_g0 Y_g0
 refine st_ 5 (fun w' => w'.cell? ⟨w20.heap.size, 0, none⟩ = some (.int .i64 u1) ∧ w'.cell? ⟨w20.heap.size, 1, none⟩ = some (.int .i64 u2) ∧ w'.cell? ⟨w20.heap.size, 2, none⟩ = some (.int .i64 u3) ∧ w'.cell? ⟨w20.heap.size, 3, none⟩ = some (.slice A_x13 u4.length c_x13) ∧ w'.cell? ⟨w20.heap.size, 4, none⟩ = some (.slice A_x14 u5.length c_x14) ∧ w'.cell? ⟨w20.heap.size, 5, none⟩ = some (.slice A_x15 u6.length c_x15) ∧ w'.cell? ⟨w.heap.size + 1, 0, none⟩ = some (.int .i64 a1_0) ∧ w'.cell? ⟨w.heap.size + 1, 1, none⟩ = some (.int .i64 a1_1) ∧ w'.cell? ⟨w.heap.size + 1, 2, none⟩ = some (.int .i64 a1_2) ∧ w'.cell? ⟨w.heap.size + 1, 3, none⟩ = some (.slice A1_3 l1_3.length c1_3) ∧ w'.cell? ⟨w.heap.size + 1, 4, none⟩ = some (.slice A1_4 l1_4.length c1_4) ∧ w'.cell? ⟨w.heap.size + 1, 5, none⟩ = some (.slice A1_5 l1_5.length c1_5)) laws_FnExactSetInode.tab16 laws_FnExactSetInode.bits16 oH (fun hHeld HT_ HW_ => ?_)
 generalize w25.drew = w26 at HB hHeld n26 K_aT K_aX K_w0 K_x0 K_x1 K_g0 S_w0 S_x0 S_x13 S_x14 S_x15 S_g0 ⊢
 refine ta_ 0 45 HT_ HW_ hHeld ?_
 refine ta_ 1 46 HT_ HW_ hHeld ?_
 refine on_ 2 47 HT_ (fun K hK => ?_)
 refine gr_ 47 Try.func11 (laws_toInode.calls k a1_0 a1_1 a1_2 _ _ l1_3 _ _ l1_4 _ _ l1_5 u1 u2 u3 u4 u5 u6 _ (kC HR1_3) HC1_3.out (kC HR1_4) HC1_4.out (kC HR1_5) HC1_5.out HU.out) ?_
 rintro e w27 ⟨v_y13, v_y14, v_y15, rfl, h_y13, h_y14, h_y15, hb⟩
 obtain ⟨A_y13, c_y13, rfl⟩ := Kd.R_slice h_y13
 have S_y13 := riv' h_y13 (w26.heap.size) w.heap.size (by simp) (below_size oB)
 clear h_y13
 obtain ⟨A_y14, c_y14, rfl⟩ := Kd.R_slice h_y14
 have S_y14 := riv' h_y14 (w26.heap.size) w.heap.size (by simp) (below_size oB)
 clear h_y14
 obtain ⟨A_y15, c_y15, rfl⟩ := Kd.R_slice h_y15
 have S_y15 := riv' h_y15 (w26.heap.size) w.heap.size (by simp) (below_size oB)
 clear h_y15
 refine ⟨_, rfl, ?_⟩
 have n27 : w26.heap.size ≤ w27.heap.size := by have := hb.size; simpa using this
 replace K_aT := bstep K_aT hb
 replace K_aX := bstep K_aX hb
 replace K_w0 := bstep K_w0 hb
 replace K_x0 := bstep K_x0 hb
 replace K_x1 := bstep K_x1 hb
 replace K_g0 := bstep K_g0 hb
 replace S_w0 := nb S_w0 hb
 replace S_x0 := sb S_x0 hb
 replace S_x13 := rb S_x13 hb
 replace S_x14 := rb S_x14 hb
 replace S_x15 := rb S_x15 hb
 replace S_g0 := sb S_g0 hb
 replace HB := Aside0.mk (below_step oB hb)
 clear hb hHeld
 refine hk_ hK 47 oH (fun hHeld => ?_)
 clear hK K
 refine on_ 3 48 HT_ (fun K hK => ?_)
 refine gr_ 48 Try.func14 (laws_eqInode.calls k u1 u2 u3 _ _ u4 _ _ u5 _ _ u6 u1 u2 u3 _ _ u4 _ _ u5 _ _ u6 true _ (kO S_x13) (rlR S_x13) (kO S_x14) (rlR S_x14) (kO S_x15) (rlR S_x15) (kO S_y13) (rlR S_y13) (kO S_y14) (rlR S_y14) (kO S_y15) (rlR S_y15) H6b.out) ?_
 rintro e w28 ⟨rfl, hb⟩
 refine ⟨_, rfl, ?_⟩
 have n28 : w27.heap.size ≤ w28.heap.size := by have := hb.size; simpa using this
 replace K_aT := bstep K_aT hb
 replace K_aX := bstep K_aX hb
 replace K_w0 := bstep K_w0 hb
 replace K_x0 := bstep K_x0 hb
 replace K_x1 := bstep K_x1 hb
 replace K_g0 := bstep K_g0 hb
 replace S_w0 := nb S_w0 hb
 replace S_x0 := sb S_x0 hb
 replace S_x13 := rb S_x13 hb
 replace S_x14 := rb S_x14 hb
 replace S_x15 := rb S_x15 hb
 replace S_g0 := sb S_g0 hb
 replace S_y13 := rb S_y13 hb
 replace S_y14 := rb S_y14 hb
 replace S_y15 := rb S_y15 hb
 replace HB := Aside0.mk (below_step oB hb)
 clear hb hHeld
 refine hk_ hK 48 oH (fun hHeld => ?_)
 clear hK K
 refine pu_ 4 49 HT_ ?_
 refine dn_ HT_ ?_
 clear hHeld HT_ HW_
 have Z_aT := z2 K_aT
 have Y_aT := zz2 K_aT
 have Z_aX := z6 K_aX
 have Y_aX := zz6 K_aX
 have Z_w0 := z2 K_w0
 have Y_w0 := zz2 K_w0
 have Z_x0 := z2 K_x0
 have Y_x0 := zz2 K_x0
 have Z_x1 := z6 K_x1
 have Y_x1 := zz6 K_x1
 have Z_g0 := z2 K_g0
 have Y_g0 := zz2 K_g0
 clear S_y13
 clear S_y14
 clear S_y15
 go_wp2_with fail
 refine (laws_markTab.calls k _ _ tl tn 1 mt ml w _ HB.out S_x0.out H7.out).mono ?_
 rintro e w29 ⟨rfl, h_x0, hb, hk⟩
 have n29 : w28.heap.size ≤ w29.heap.size := hk.1
 replace S_w0 := nk S_w0 hk (fun q h h' => by omega)
 replace S_x13 := rk S_x13 hk (fun q h h' => by omega)
 replace S_x14 := rk S_x14 hk (fun q h h' => by omega)
 replace S_x15 := rk S_x15 hk (fun q h h' => by omega)
 replace S_g0 := sk S_g0 hk (fun q h h' => by omega)
 replace K_aT := bkept K_aT hk (fun h => by omega)
 replace K_aX := bkept K_aX hk (fun h => by omega)
 replace K_w0 := bkept K_w0 hk (fun h => by omega)
 clear K_x0 Z_x0 Y_x0
 replace K_x1 := bkept K_x1 hk (fun h => by omega)
 replace K_g0 := bkept K_g0 hk (fun h => by omega)
 clear S_x0
 clear h_x0
 replace HB := Aside0.mk hb
 clear hb hk
 replace Z_aT := z2 K_aT
 replace Y_aT := zz2 K_aT
 replace Z_aX := z6 K_aX
 replace Y_aX := zz6 K_aX
 replace Z_w0 := z2 K_w0
 replace Y_w0 := zz2 K_w0
 replace Z_x1 := z6 K_x1
 replace Y_x1 := zz6 K_x1
 replace Z_g0 := z2 K_g0
 replace Y_g0 := zz2 K_g0
 go_wp2_with fail
 refine (laws_markInode.calls k u1 u2 u3 _ _ u4 _ _ u5 _ _ u6 mt mi m4 m5 m6 w _ HB.out S_x13.out S_x14.out S_x15.out H7b.out).mono ?_
 rintro e w30 ⟨rfl, h_x13, h_x14, h_x15, hb, hk⟩
 have n30 : w29.heap.size ≤ w30.heap.size := hk.1
 replace S_w0 := nk S_w0 hk (fun q h h' => by omega)
 replace S_g0 := sk S_g0 hk (fun q h h' => by omega)
 replace K_aT := bkept K_aT hk (fun h => by omega)
 replace K_aX := bkept K_aX hk (fun h => by omega)
 replace K_w0 := bkept K_w0 hk (fun h => by omega)
 clear K_x1 Z_x1 Y_x1
 replace K_g0 := bkept K_g0 hk (fun h => by omega)
 clear S_x13
 clear S_x14
 clear S_x15
 clear h_x13
 clear h_x14
 clear h_x15
 replace HB := Aside0.mk hb
 clear hb hk
 replace Z_aT := z2 K_aT
 replace Y_aT := zz2 K_aT
 replace Z_aX := z6 K_aX
 replace Y_aX := zz6 K_aX
 replace Z_w0 := z2 K_w0
 replace Y_w0 := zz2 K_w0
 replace Z_g0 := z2 K_g0
 replace Y_g0 := zz2 K_g0
 go_wp2_with fail
 refine (laws_eqTab.calls k _ _ s1 s2 _ _ p1 p2 true _ (rS S_g0) (rl S_g0) (nS S_w0) (nl S_w0) H5.out).mono ?_
 rintro e w31 ⟨rfl, hb⟩
 have n31 : w30.heap.size ≤ w31.heap.size := by have := hb.size; simpa using this
 replace K_aT := bstep K_aT hb
 replace K_aX := bstep K_aX hb
 replace K_w0 := bstep K_w0 hb
 replace K_g0 := bstep K_g0 hb
 replace S_w0 := nb S_w0 hb
 replace S_g0 := sb S_g0 hb
 replace HB := Aside0.mk (below_step oB hb)
 clear hb
 replace Z_aT := z2 K_aT
 replace Y_aT := zz2 K_aT
 replace Z_aX := z6 K_aX
 replace Y_aX := zz6 K_aX
 replace Z_w0 := z2 K_w0
 replace Y_w0 := zz2 K_w0
 replace Z_g0 := z2 K_g0
 replace Y_g0 := zz2 K_g0
 go_wp2_with fail
 refine (laws_markTab.calls k _ _ s1 s2 1 q mg w _ HB.out S_g0.out H8.out).mono ?_
 rintro e w32 ⟨rfl, h_g0, hb, hk⟩
 have n32 : w31.heap.size ≤ w32.heap.size := hk.1
 replace S_w0 := nk S_w0 hk (fun q h h' => by omega)
 replace K_aT := bkept K_aT hk (fun h => by omega)
 replace K_aX := bkept K_aX hk (fun h => by omega)
 replace K_w0 := bkept K_w0 hk (fun h => by omega)
 replace K_g0 := bkept K_g0 hk (fun h => by omega)
 replace S_g0 := Aside0.mk h_g0
 clear h_g0
 replace HB := Aside0.mk hb
 clear hb hk
 replace Z_aT := z2 K_aT
 replace Y_aT := zz2 K_aT
 replace Z_aX := z6 K_aX
 replace Y_aX := zz6 K_aX
 replace Z_w0 := z2 K_w0
 replace Y_w0 := zz2 K_w0
 replace Z_g0 := z2 K_g0
 replace Y_g0 := zz2 K_g0
 go_wp2_with fail
 refine (laws_heldTab.calls' k _ _ _ mg s2 1 q _ L4.out (rS S_g0) (rl S_g0) H9.out).mono ?_
 rintro e w33 ⟨rfl, hb⟩
 have n33 : w32.heap.size ≤ w33.heap.size := by have := hb.size; simpa using this
 replace K_aT := bstep K_aT hb
 replace K_aX := bstep K_aX hb
 replace K_w0 := bstep K_w0 hb
 replace K_g0 := bstep K_g0 hb
 replace S_w0 := nb S_w0 hb
 replace S_g0 := sb S_g0 hb
 replace HB := Aside0.mk (below_step oB hb)
 clear hb
 replace Z_aT := z2 K_aT
 replace Y_aT := zz2 K_aT
 replace Z_aX := z6 K_aX
 replace Y_aX := zz6 K_aX
 replace Z_w0 := z2 K_w0
 replace Y_w0 := zz2 K_w0
 replace Z_g0 := z2 K_g0
 replace Y_g0 := zz2 K_g0
 go_wp2_with fail
 replace K_aT := bdrew K_aT
 replace K_aX := bdrew K_aX
 replace K_w0 := bdrew K_w0
 replace K_g0 := bdrew K_g0
 replace S_w0 := ndrew S_w0
 replace S_g0 := sdrew S_g0
 replace HB := Aside0.mk (below_drew1 HB.out)
 have n34 : w33.heap.size ≤ w33.drew.heap.size := Nat.le_refl _
 clear Z_aT Y_aT Z_aX Y_aX Z_w0 Y_w0 Z_g0 Y_g0
 refine sd_ 7 [6] (fun w' => w'.cell? ⟨w.heap.size, 0, none⟩ = some (.slice A0_0 l0_0.length c0_0) ∧ w'.cell? ⟨w.heap.size, 1, none⟩ = some (.int .i64 a0_1) ∧ w'.cell? ⟨w.heap.size + 1, 0, none⟩ = some (.int .i64 a1_0) ∧ w'.cell? ⟨w.heap.size + 1, 1, none⟩ = some (.int .i64 a1_1) ∧ w'.cell? ⟨w.heap.size + 1, 2, none⟩ = some (.int .i64 a1_2) ∧ w'.cell? ⟨w.heap.size + 1, 3, none⟩ = some (.slice A1_3 l1_3.length c1_3) ∧ w'.cell? ⟨w.heap.size + 1, 4, none⟩ = some (.slice A1_4 l1_4.length c1_4) ∧ w'.cell? ⟨w.heap.size + 1, 5, none⟩ = some (.slice A1_5 l1_5.length c1_5)) laws_FnExactSetInode.tab31 laws_FnExactSetInode.bits31 oH (fun hHeld HT_ HW_ => ?_)
 generalize w33.drew = w34 at HB hHeld n34 K_aT K_aX K_w0 K_g0 S_w0 S_g0 ⊢
 replace S_w0 := nbd S_w0
 replace S_g0 := sbd S_g0
 have lt_aT31 := blk_lt K_aT.out
 have lt_aX31 := blk_lt K_aX.out
 have lt_w031 := blk_lt K_w0.out
 have lt_g031 := blk_lt K_g0.out
 refine ta_ 0 75 HT_ HW_ hHeld ?_
 refine ta_ 2 77 HT_ HW_ hHeld ?_
 refine join_ (σ := Value × Value × Value × Nat) 1 (lb 7 63) (fun s => [(76, s.1), (78, s.2.1), (79, s.2.2.1), (13, .pointer (some ⟨s.2.2.2, 0, none⟩))]) (fun s W => Below w34.heap.size w34 W ∧ (∃ A c, s.2.2.1 = .agg #[.slice A s1.length c, .int .i64 s2] ∧ Kd.S k40 40 W w.heap.size (fun k => (w34.heap.size ≤ k ∧ k < W.heap.size) ∧ k ≠ s.2.2.2) (.slice A s1.length c) s1) ∧ W.heap[s.2.2.2]? = some (.cells #[.slice none 0 0, .int .i64 0] 34 (0, 0)) ∧ w34.heap.size ≤ s.2.2.2 ∧ s.2.2.2 < W.heap.size) ?_ ?_
 rotate_left
 ·intro hj
  have HBs := Aside0.mk (Below.refl w34.heap.size w34)
  refine tw_ 1 5 76 13 HT_ (fun K hK => ?_) (fun K hK => ?_)
  ·refine gr_ 76 Try.func10 (laws_toTab.calls k _ _ l0_0 a0_1 tl tn _ (kC HR0_0) HC0_0.out H2.out) ?_
   rintro e w35 ⟨v_yt, rfl, h_yt, hb⟩
   obtain ⟨A_yt, c_yt, rfl⟩ := Kd.S_slice h_yt
   have S_yt := siv' h_yt (w34.heap.size) w.heap.size (by simp) (below_size oB)
   clear h_yt
   refine ⟨_, rfl, ?_⟩
   have m35 : w34.heap.size ≤ w35.heap.size := by have := hb.size; simpa using this
   replace K_aT := bstep K_aT hb
   replace K_aX := bstep K_aX hb
   replace HB := Aside0.mk (below_step oB hb)
   replace HBs := Aside0.mk (below_then HBs.out HBs.out.size hb)
   clear hb hHeld
   refine hk_ hK 76 oH (fun hHeld => ?_)
   clear hK K
   refine tw_ 3 5 78 13 HT_ (fun K hK => ?_) (fun K hK => ?_)
   ·refine gr_ 78 Try.func11 (laws_toInode.calls k a1_0 a1_1 a1_2 _ _ l1_3 _ _ l1_4 _ _ l1_5 u1 u2 u3 u4 u5 u6 _ (kC HR1_3) HC1_3.out (kC HR1_4) HC1_4.out (kC HR1_5) HC1_5.out HU.out) ?_
    rintro e w36 ⟨v_yu3, v_yu4, v_yu5, rfl, h_yu3, h_yu4, h_yu5, hb⟩
    obtain ⟨A_yu3, c_yu3, rfl⟩ := Kd.R_slice h_yu3
    have S_yu3 := riv' h_yu3 (w35.heap.size) w.heap.size (by simp) (below_size oB)
    clear h_yu3
    obtain ⟨A_yu4, c_yu4, rfl⟩ := Kd.R_slice h_yu4
    have S_yu4 := riv' h_yu4 (w35.heap.size) w.heap.size (by simp) (below_size oB)
    clear h_yu4
    obtain ⟨A_yu5, c_yu5, rfl⟩ := Kd.R_slice h_yu5
    have S_yu5 := riv' h_yu5 (w35.heap.size) w.heap.size (by simp) (below_size oB)
    clear h_yu5
    refine ⟨_, rfl, ?_⟩
    have m36 : w35.heap.size ≤ w36.heap.size := by have := hb.size; simpa using this
    replace K_aT := bstep K_aT hb
    replace K_aX := bstep K_aX hb
    replace S_yt := sb S_yt hb
    replace HB := Aside0.mk (below_step oB hb)
    replace HBs := Aside0.mk (below_then HBs.out HBs.out.size hb)
    clear hb hHeld
    refine hk_ hK 78 oH (fun hHeld => ?_)
    clear hK K
    refine tw_ 4 5 79 13 HT_ (fun K hK => ?_) (fun K hK => ?_)
    ·refine gr_ 79 Try.func12 (impl_SetInode.calls k _ _ tl tn u1 u2 u3 _ _ u4 _ _ u5 _ _ u6 s1 s2 _ (rS S_yt) (rl S_yt) (kO S_yu3) (rlR S_yu3) (kO S_yu4) (rlR S_yu4) (kO S_yu5) (rlR S_yu5) H4.out) ?_
     rintro e w37 ⟨v_yr, rfl, h_yr, hb⟩
     obtain ⟨A_yr, c_yr, rfl⟩ := Kd.S_slice h_yr
     have S_yr := siv' h_yr (w36.heap.size) w.heap.size (by simp) (below_size oB)
     clear h_yr
     refine ⟨_, rfl, ?_⟩
     have m37 : w36.heap.size ≤ w37.heap.size := by have := hb.size; simpa using this
     replace K_aT := bstep K_aT hb
     replace K_aX := bstep K_aX hb
     replace S_yt := sb S_yt hb
     replace S_yu3 := rb S_yu3 hb
     replace S_yu4 := rb S_yu4 hb
     replace S_yu5 := rb S_yu5 hb
     replace HB := Aside0.mk (below_step oB hb)
     replace HBs := Aside0.mk (below_then HBs.out HBs.out.size hb)
     clear hb hHeld
     refine hk_ hK 79 oH (fun hHeld => ?_)
     clear hK K
     refine on_ 5 13 HT_ (fun K hK => ?_)
     refine value_ (v := .pointer (some ⟨w37.heap.size, 0, none⟩)) (w1 := w37.alloc (.cells #[.slice none 0 0, .int .i64 0] 34 (0, 0))) (by rfl) rfl (by first | (go_simp; done) | (go_simp; rfl)) ?_
     have hb : Below w37.heap.size w37 (w37.alloc (.cells #[.slice none 0 0, .int .i64 0] 34 (0, 0))) := below_alloc (Below.refl _ _) _
     have K_gb := Aside0.mk (blk_new w37 (.cells #[.slice none 0 0, .int .i64 0] 34 (0, 0)))
     have gh : w37.heap.size < (w37.alloc (.cells #[.slice none 0 0, .int .i64 0] 34 (0, 0))).heap.size := by simp
     generalize w37.alloc (.cells #[.slice none 0 0, .int .i64 0] 34 (0, 0)) = w38 at hb K_gb gh ⊢
     have m38 : w37.heap.size ≤ w38.heap.size := hb.size
     replace K_aT := bstep K_aT hb
     replace K_aX := bstep K_aX hb
     replace S_yt := sb S_yt hb
     replace S_yu3 := rb S_yu3 hb
     replace S_yu4 := rb S_yu4 hb
     replace S_yu5 := rb S_yu5 hb
     replace S_yr := sb S_yr hb
     replace HB := Aside0.mk (below_step oB hb)
     replace HBs := Aside0.mk (below_then HBs.out HBs.out.size hb)
     clear hb hHeld
     refine hk_ hK 13 oH (fun hHeld => ?_)
     clear hK K
     refine hj (_, _, _, w37.heap.size) _ ⟨HBs.out, ⟨_, _, rfl, ?_⟩, K_gb.out, ?_, ?_⟩
     ·(have := HBs.out.size; dsimp only; exact Kd.S_mono S_yr.out (fun k hk => by obtain ⟨h1, h2⟩ := hk; exact ⟨⟨by omega, by omega⟩, by omega⟩))
     ·(dsimp only; omega)
     ·(dsimp only; omega)
    ·refine value_ (v := .pointer (some ⟨w36.heap.size, 0, none⟩)) (w1 := w36.alloc (.cells #[.slice none 0 0, .int .i64 0] 34 (0, 0))) (by rfl) rfl (by first | (go_simp; done) | (go_simp; rfl)) ?_
     have hb : Below w36.heap.size w36 (w36.alloc (.cells #[.slice none 0 0, .int .i64 0] 34 (0, 0))) := below_alloc (Below.refl _ _) _
     have K_gb := Aside0.mk (blk_new w36 (.cells #[.slice none 0 0, .int .i64 0] 34 (0, 0)))
     have gh : w36.heap.size < (w36.alloc (.cells #[.slice none 0 0, .int .i64 0] 34 (0, 0))).heap.size := by simp
     generalize w36.alloc (.cells #[.slice none 0 0, .int .i64 0] 34 (0, 0)) = w39 at hb K_gb gh ⊢
     have m39 : w36.heap.size ≤ w39.heap.size := hb.size
     replace K_aT := bstep K_aT hb
     replace K_aX := bstep K_aX hb
     replace S_yt := sb S_yt hb
     replace S_yu3 := rb S_yu3 hb
     replace S_yu4 := rb S_yu4 hb
     replace S_yu5 := rb S_yu5 hb
     replace HB := Aside0.mk (below_step oB hb)
     replace HBs := Aside0.mk (below_then HBs.out HBs.out.size hb)
     clear hb hHeld
     refine hk_ hK 13 oH (fun hHeld => ?_)
     clear hK K
     refine on_ 4 79 HT_ (fun K hK => ?_)
     refine gr_ 79 Try.func12 (impl_SetInode.calls k _ _ tl tn u1 u2 u3 _ _ u4 _ _ u5 _ _ u6 s1 s2 _ (rS S_yt) (rl S_yt) (kO S_yu3) (rlR S_yu3) (kO S_yu4) (rlR S_yu4) (kO S_yu5) (rlR S_yu5) H4.out) ?_
     rintro e w40 ⟨v_yr, rfl, h_yr, hb⟩
     obtain ⟨A_yr, c_yr, rfl⟩ := Kd.S_slice h_yr
     have S_yr := siv' h_yr (w39.heap.size) w.heap.size (by simp) (below_size oB)
     clear h_yr
     refine ⟨_, rfl, ?_⟩
     have m40 : w39.heap.size ≤ w40.heap.size := by have := hb.size; simpa using this
     replace K_aT := bstep K_aT hb
     replace K_aX := bstep K_aX hb
     replace S_yt := sb S_yt hb
     replace S_yu3 := rb S_yu3 hb
     replace S_yu4 := rb S_yu4 hb
     replace S_yu5 := rb S_yu5 hb
     replace K_gb := bstep K_gb hb
     replace HB := Aside0.mk (below_step oB hb)
     replace HBs := Aside0.mk (below_then HBs.out HBs.out.size hb)
     clear hb hHeld
     refine hk_ hK 79 oH (fun hHeld => ?_)
     clear hK K
     refine hj (_, _, _, w36.heap.size) _ ⟨HBs.out, ⟨_, _, rfl, ?_⟩, K_gb.out, ?_, ?_⟩
     ·(have := HBs.out.size; dsimp only; exact Kd.S_mono S_yr.out (fun k hk => by obtain ⟨h1, h2⟩ := hk; exact ⟨⟨by omega, by omega⟩, by omega⟩))
     ·(dsimp only; omega)
     ·(dsimp only; omega)
   ·refine value_ (v := .pointer (some ⟨w35.heap.size, 0, none⟩)) (w1 := w35.alloc (.cells #[.slice none 0 0, .int .i64 0] 34 (0, 0))) (by rfl) rfl (by first | (go_simp; done) | (go_simp; rfl)) ?_
    have hb : Below w35.heap.size w35 (w35.alloc (.cells #[.slice none 0 0, .int .i64 0] 34 (0, 0))) := below_alloc (Below.refl _ _) _
    have K_gb := Aside0.mk (blk_new w35 (.cells #[.slice none 0 0, .int .i64 0] 34 (0, 0)))
    have gh : w35.heap.size < (w35.alloc (.cells #[.slice none 0 0, .int .i64 0] 34 (0, 0))).heap.size := by simp
    generalize w35.alloc (.cells #[.slice none 0 0, .int .i64 0] 34 (0, 0)) = w41 at hb K_gb gh ⊢
    have m41 : w35.heap.size ≤ w41.heap.size := hb.size
    replace K_aT := bstep K_aT hb
    replace K_aX := bstep K_aX hb
    replace S_yt := sb S_yt hb
    replace HB := Aside0.mk (below_step oB hb)
    replace HBs := Aside0.mk (below_then HBs.out HBs.out.size hb)
    clear hb hHeld
    refine hk_ hK 13 oH (fun hHeld => ?_)
    clear hK K
    refine on_ 3 78 HT_ (fun K hK => ?_)
    refine gr_ 78 Try.func11 (laws_toInode.calls k a1_0 a1_1 a1_2 _ _ l1_3 _ _ l1_4 _ _ l1_5 u1 u2 u3 u4 u5 u6 _ (kC HR1_3) HC1_3.out (kC HR1_4) HC1_4.out (kC HR1_5) HC1_5.out HU.out) ?_
    rintro e w42 ⟨v_yu3, v_yu4, v_yu5, rfl, h_yu3, h_yu4, h_yu5, hb⟩
    obtain ⟨A_yu3, c_yu3, rfl⟩ := Kd.R_slice h_yu3
    have S_yu3 := riv' h_yu3 (w41.heap.size) w.heap.size (by simp) (below_size oB)
    clear h_yu3
    obtain ⟨A_yu4, c_yu4, rfl⟩ := Kd.R_slice h_yu4
    have S_yu4 := riv' h_yu4 (w41.heap.size) w.heap.size (by simp) (below_size oB)
    clear h_yu4
    obtain ⟨A_yu5, c_yu5, rfl⟩ := Kd.R_slice h_yu5
    have S_yu5 := riv' h_yu5 (w41.heap.size) w.heap.size (by simp) (below_size oB)
    clear h_yu5
    refine ⟨_, rfl, ?_⟩
    have m42 : w41.heap.size ≤ w42.heap.size := by have := hb.size; simpa using this
    replace K_aT := bstep K_aT hb
    replace K_aX := bstep K_aX hb
    replace S_yt := sb S_yt hb
    replace K_gb := bstep K_gb hb
    replace HB := Aside0.mk (below_step oB hb)
    replace HBs := Aside0.mk (below_then HBs.out HBs.out.size hb)
    clear hb hHeld
    refine hk_ hK 78 oH (fun hHeld => ?_)
    clear hK K
    refine on_ 4 79 HT_ (fun K hK => ?_)
    refine gr_ 79 Try.func12 (impl_SetInode.calls k _ _ tl tn u1 u2 u3 _ _ u4 _ _ u5 _ _ u6 s1 s2 _ (rS S_yt) (rl S_yt) (kO S_yu3) (rlR S_yu3) (kO S_yu4) (rlR S_yu4) (kO S_yu5) (rlR S_yu5) H4.out) ?_
    rintro e w43 ⟨v_yr, rfl, h_yr, hb⟩
    obtain ⟨A_yr, c_yr, rfl⟩ := Kd.S_slice h_yr
    have S_yr := siv' h_yr (w42.heap.size) w.heap.size (by simp) (below_size oB)
    clear h_yr
    refine ⟨_, rfl, ?_⟩
    have m43 : w42.heap.size ≤ w43.heap.size := by have := hb.size; simpa using this
    replace K_aT := bstep K_aT hb
    replace K_aX := bstep K_aX hb
    replace S_yt := sb S_yt hb
    replace K_gb := bstep K_gb hb
    replace S_yu3 := rb S_yu3 hb
    replace S_yu4 := rb S_yu4 hb
    replace S_yu5 := rb S_yu5 hb
    replace HB := Aside0.mk (below_step oB hb)
    replace HBs := Aside0.mk (below_then HBs.out HBs.out.size hb)
    clear hb hHeld
    refine hk_ hK 79 oH (fun hHeld => ?_)
    clear hK K
    refine hj (_, _, _, w35.heap.size) _ ⟨HBs.out, ⟨_, _, rfl, ?_⟩, K_gb.out, ?_, ?_⟩
    ·(have := HBs.out.size; dsimp only; exact Kd.S_mono S_yr.out (fun k hk => by obtain ⟨h1, h2⟩ := hk; exact ⟨⟨by omega, by omega⟩, by omega⟩))
    ·(dsimp only; omega)
    ·(dsimp only; omega)
  ·refine value_ (v := .pointer (some ⟨w34.heap.size, 0, none⟩)) (w1 := w34.alloc (.cells #[.slice none 0 0, .int .i64 0] 34 (0, 0))) (by rfl) rfl (by first | (go_simp; done) | (go_simp; rfl)) ?_
   have hb : Below w34.heap.size w34 (w34.alloc (.cells #[.slice none 0 0, .int .i64 0] 34 (0, 0))) := below_alloc (Below.refl _ _) _
   have K_gb := Aside0.mk (blk_new w34 (.cells #[.slice none 0 0, .int .i64 0] 34 (0, 0)))
   have gh : w34.heap.size < (w34.alloc (.cells #[.slice none 0 0, .int .i64 0] 34 (0, 0))).heap.size := by simp
   generalize w34.alloc (.cells #[.slice none 0 0, .int .i64 0] 34 (0, 0)) = w44 at hb K_gb gh ⊢
   have m44 : w34.heap.size ≤ w44.heap.size := hb.size
   replace K_aT := bstep K_aT hb
   replace K_aX := bstep K_aX hb
   replace HB := Aside0.mk (below_step oB hb)
   replace HBs := Aside0.mk (below_then HBs.out HBs.out.size hb)
   clear hb hHeld
   refine hk_ hK 13 oH (fun hHeld => ?_)
   clear hK K
   refine on_ 1 76 HT_ (fun K hK => ?_)
   refine gr_ 76 Try.func10 (laws_toTab.calls k _ _ l0_0 a0_1 tl tn _ (kC HR0_0) HC0_0.out H2.out) ?_
   rintro e w45 ⟨v_yt, rfl, h_yt, hb⟩
   obtain ⟨A_yt, c_yt, rfl⟩ := Kd.S_slice h_yt
   have S_yt := siv' h_yt (w44.heap.size) w.heap.size (by simp) (below_size oB)
   clear h_yt
   refine ⟨_, rfl, ?_⟩
   have m45 : w44.heap.size ≤ w45.heap.size := by have := hb.size; simpa using this
   replace K_aT := bstep K_aT hb
   replace K_aX := bstep K_aX hb
   replace K_gb := bstep K_gb hb
   replace HB := Aside0.mk (below_step oB hb)
   replace HBs := Aside0.mk (below_then HBs.out HBs.out.size hb)
   clear hb hHeld
   refine hk_ hK 76 oH (fun hHeld => ?_)
   clear hK K
   refine on_ 3 78 HT_ (fun K hK => ?_)
   refine gr_ 78 Try.func11 (laws_toInode.calls k a1_0 a1_1 a1_2 _ _ l1_3 _ _ l1_4 _ _ l1_5 u1 u2 u3 u4 u5 u6 _ (kC HR1_3) HC1_3.out (kC HR1_4) HC1_4.out (kC HR1_5) HC1_5.out HU.out) ?_
   rintro e w46 ⟨v_yu3, v_yu4, v_yu5, rfl, h_yu3, h_yu4, h_yu5, hb⟩
   obtain ⟨A_yu3, c_yu3, rfl⟩ := Kd.R_slice h_yu3
   have S_yu3 := riv' h_yu3 (w45.heap.size) w.heap.size (by simp) (below_size oB)
   clear h_yu3
   obtain ⟨A_yu4, c_yu4, rfl⟩ := Kd.R_slice h_yu4
   have S_yu4 := riv' h_yu4 (w45.heap.size) w.heap.size (by simp) (below_size oB)
   clear h_yu4
   obtain ⟨A_yu5, c_yu5, rfl⟩ := Kd.R_slice h_yu5
   have S_yu5 := riv' h_yu5 (w45.heap.size) w.heap.size (by simp) (below_size oB)
   clear h_yu5
   refine ⟨_, rfl, ?_⟩
   have m46 : w45.heap.size ≤ w46.heap.size := by have := hb.size; simpa using this
   replace K_aT := bstep K_aT hb
   replace K_aX := bstep K_aX hb
   replace K_gb := bstep K_gb hb
   replace S_yt := sb S_yt hb
   replace HB := Aside0.mk (below_step oB hb)
   replace HBs := Aside0.mk (below_then HBs.out HBs.out.size hb)
   clear hb hHeld
   refine hk_ hK 78 oH (fun hHeld => ?_)
   clear hK K
   refine on_ 4 79 HT_ (fun K hK => ?_)
   refine gr_ 79 Try.func12 (impl_SetInode.calls k _ _ tl tn u1 u2 u3 _ _ u4 _ _ u5 _ _ u6 s1 s2 _ (rS S_yt) (rl S_yt) (kO S_yu3) (rlR S_yu3) (kO S_yu4) (rlR S_yu4) (kO S_yu5) (rlR S_yu5) H4.out) ?_
   rintro e w47 ⟨v_yr, rfl, h_yr, hb⟩
   obtain ⟨A_yr, c_yr, rfl⟩ := Kd.S_slice h_yr
   have S_yr := siv' h_yr (w46.heap.size) w.heap.size (by simp) (below_size oB)
   clear h_yr
   refine ⟨_, rfl, ?_⟩
   have m47 : w46.heap.size ≤ w47.heap.size := by have := hb.size; simpa using this
   replace K_aT := bstep K_aT hb
   replace K_aX := bstep K_aX hb
   replace K_gb := bstep K_gb hb
   replace S_yt := sb S_yt hb
   replace S_yu3 := rb S_yu3 hb
   replace S_yu4 := rb S_yu4 hb
   replace S_yu5 := rb S_yu5 hb
   replace HB := Aside0.mk (below_step oB hb)
   replace HBs := Aside0.mk (below_then HBs.out HBs.out.size hb)
   clear hb hHeld
   refine hk_ hK 79 oH (fun hHeld => ?_)
   clear hK K
   refine hj (_, _, _, w34.heap.size) _ ⟨HBs.out, ⟨_, _, rfl, ?_⟩, K_gb.out, ?_, ?_⟩
   ·(have := HBs.out.size; dsimp only; exact Kd.S_mono S_yr.out (fun k hk => by obtain ⟨h1, h2⟩ := hk; exact ⟨⟨by omega, by omega⟩, by omega⟩))
   ·(dsimp only; omega)
   ·(dsimp only; omega)
 rintro ⟨v25_, v27_, v28_, g_h0⟩ w48 hF
 dsimp only at hF
 obtain ⟨hb, ⟨A_h0, c_h0, rfl, S_h0⟩, K_h0, gl_h0, gh_h0⟩ := hF
 replace S_h0 := Aside0.mk S_h0
 replace K_h0 := Aside0.mk K_h0
 refine norm_ (a' := ?_) ?_ ?_
 rotate_left
 ·(simp only [putAll, Act.put, List.setIfInBounds_toArray, List.set_cons_zero, List.set_cons_succ]; rfl)
 have n48 : w34.heap.size ≤ w48.heap.size := hb.size
 replace K_aT := bstep K_aT hb
 replace K_aX := bstep K_aX hb
 replace K_w0 := bstep K_w0 hb
 replace K_g0 := bstep K_g0 hb
 replace S_w0 := nb S_w0 hb
 replace S_g0 := sb S_g0 hb
 replace HB := Aside0.mk (below_step oB hb)
 clear hb hHeld
 have Z_h0 := z2 K_h0
 refine ls_ 6 HT_ (fun K hK => ?_)
 refine skip_ (w1 := ?_) (by rfl) rfl ?_ ?_
 rotate_left
 ·(go_simp; rfl)
 refine hK.out _ _ ?_
 clear hK K
 refine dn_ HT_ ?_
 clear HT_ HW_ Z_h0
 replace K_aT := two_far_b (g := g_h0) (a := .slice A_h0 s1.length c_h0) (b := .int .i64 s2) K_aT (by omega)
 replace K_aX := two_far_b (g := g_h0) (a := .slice A_h0 s1.length c_h0) (b := .int .i64 s2) K_aX (by omega)
 replace K_w0 := two_far_b (g := g_h0) (a := .slice A_h0 s1.length c_h0) (b := .int .i64 s2) K_w0 (by omega)
 replace K_g0 := two_far_b (g := g_h0) (a := .slice A_h0 s1.length c_h0) (b := .int .i64 s2) K_g0 (by omega)
 replace K_h0 := two_put K_h0 (.slice A_h0 s1.length c_h0) (.int .i64 s2)
 replace S_w0 := two_far_N (g := g_h0) (a := .slice A_h0 s1.length c_h0) (b := .int .i64 s2) S_w0 (fun k hk => by omega)
 replace S_g0 := two_far_S (g := g_h0) (a := .slice A_h0 s1.length c_h0) (b := .int .i64 s2) S_g0 (fun k hk => by omega)
 replace S_h0 := two_far_S (g := g_h0) (a := .slice A_h0 s1.length c_h0) (b := .int .i64 s2) S_h0 (fun k hk => by omega)
 replace HB := Aside0.mk ((HB.out.setCell (p := ⟨g_h0, 0, none⟩) (by have := HB.out.size; dsimp only; omega) (.slice A_h0 s1.length c_h0)).setCell (p := ⟨g_h0, 1, none⟩) (by dsimp only; omega) (.int .i64 s2))
 have n49 : w48.heap.size ≤ ((w48.setCell ⟨g_h0, 0, none⟩ (.slice A_h0 s1.length c_h0)).setCell ⟨g_h0, 1, none⟩ (.int .i64 s2)).heap.size := by simp [World.setCell]
 generalize ((w48.setCell ⟨g_h0, 0, none⟩ (.slice A_h0 s1.length c_h0)).setCell ⟨g_h0, 1, none⟩ (.int .i64 s2)) = w49 at HB n49 K_aT K_aX K_w0 K_g0 K_h0 S_w0 S_g0 S_h0 ⊢
 have Z_aT := z2 K_aT
 have Y_aT := zz2 K_aT
 have Z_aX := z6 K_aX
 have Y_aX := zz6 K_aX
 have Z_w0 := z2 K_w0
 have Y_w0 := zz2 K_w0
 have Z_g0 := z2 K_g0
 have Y_g0 := zz2 K_g0
 have Z_h0 := z2 K_h0
 have Y_h0 := zz2 K_h0
 go_wp2_with fail
 refine (laws_eqTab.calls k _ _ s1 s2 _ _ p1 p2 true _ (rS S_h0) (rl S_h0) (nS S_w0) (nl S_w0) H5.out).mono ?_
 rintro e w50 ⟨rfl, hb⟩
 have n50 : w49.heap.size ≤ w50.heap.size := by have := hb.size; simpa using this
 replace K_aT := bstep K_aT hb
 replace K_aX := bstep K_aX hb
 replace K_w0 := bstep K_w0 hb
 replace K_g0 := bstep K_g0 hb
 replace K_h0 := bstep K_h0 hb
 replace S_w0 := nb S_w0 hb
 replace S_g0 := sb S_g0 hb
 replace S_h0 := sb S_h0 hb
 replace HB := Aside0.mk (below_step oB hb)
 clear hb
 replace Z_aT := z2 K_aT
 replace Y_aT := zz2 K_aT
 replace Z_aX := z6 K_aX
 replace Y_aX := zz6 K_aX
 replace Z_w0 := z2 K_w0
 replace Y_w0 := zz2 K_w0
 replace Z_g0 := z2 K_g0
 replace Y_g0 := zz2 K_g0
 replace Z_h0 := z2 K_h0
 replace Y_h0 := zz2 K_h0
 go_wp2_with fail
 refine (laws_heldTab.calls' k _ _ _ mg s2 1 q _ L4.out (rS S_g0) (rl S_g0) H9.out).mono ?_
 rintro e w51 ⟨rfl, hb⟩
 have n51 : w50.heap.size ≤ w51.heap.size := by have := hb.size; simpa using this
 replace K_aT := bstep K_aT hb
 replace K_aX := bstep K_aX hb
 replace K_w0 := bstep K_w0 hb
 replace K_g0 := bstep K_g0 hb
 replace K_h0 := bstep K_h0 hb
 replace S_w0 := nb S_w0 hb
 replace S_g0 := sb S_g0 hb
 replace S_h0 := sb S_h0 hb
 replace HB := Aside0.mk (below_step oB hb)
 clear hb
 replace Z_aT := z2 K_aT
 replace Y_aT := zz2 K_aT
 replace Z_aX := z6 K_aX
 replace Y_aX := zz6 K_aX
 replace Z_w0 := z2 K_w0
 replace Y_w0 := zz2 K_w0
 replace Z_g0 := z2 K_g0
 replace Y_g0 := zz2 K_g0
 replace Z_h0 := z2 K_h0
 replace Y_h0 := zz2 K_h0
 go_wp2_with fail
 go_ret
 exact ⟨rfl, oB⟩
end Go.Proofs.Ytmndnegpclaidaa.P
