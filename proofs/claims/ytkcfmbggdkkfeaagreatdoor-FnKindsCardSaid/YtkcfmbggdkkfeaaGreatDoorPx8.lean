-- By this session's own program (wip/myprint.py) out of the translation; Lean checks it.
import Derived.Test.YtkcfmbggdkkfeaaGreatDoorPx0
import Derived.Test.YtkcfmbggdkkfeaaGreatDoorPx1
import Derived.Test.YtkcfmbggdkkfeaaGreatDoorPx2
import Derived.Test.YtkcfmbggdkkfeaaGreatDoorPx7
namespace Go.Proofs.YtkcfmbggdkkfeaaGreatDoor.P
open Go.RowKit Go.Proofs.YtkcfmbggdkkfeaaGreatDoorW.PrintWords Go.Proofs.YtkcfmbggdkkfeaaGreatDoorW.PrintLast Go.Proofs.YtkcfmbggdkkfeaaGreatDoorW.PrintMore
attribute [local go_sem] max2_int min2_int max_two min_two max_three min_three max_four min_four   -- for this text's walks alone
set_option linter.unusedVariables false
set_option linter.unusedSimpArgs false

/-! ### impl_ready: function 46 -/
def impl_ready.l0 : Nat → List ByteArray → Int → Int → List (S51) → Int → Option (Bool)
 | 0, _, _, _, _, _ => none
 | k + 1, x9, x10, x11, x268000, x268001 => if x11 < x10 then (if 0 ≤ x11 then (if x11 < (x9.length : Int) then ((impl_SplitPath.f k (rdOf ByteArray.empty x9 x11)).bind fun bt269 => (if bt269.2 = true then (impl_ready.l0 k x9 x10 (wrap64 (x11 + 1)) x268000 x268001) else (some false))) else (none)) else (none)) else ((impl_TreeOk.f k x268000 x268001).bind fun t273 => (some t273))
def impl_ready.f (k : Nat) (l0_0 : List (S51)) (a0_1 : Int) (l1 : List ByteArray) : Option (Bool) := impl_ready.l0 k l1 (l1.length : Int) 0 l0_0 a0_1
set_option maxHeartbeats 8000000 in
set_option maxRecDepth 100000 in
theorem impl_ready.calls (k : Nat) (A0_0 : Option Addr) (c0_0 : Nat) (l0_0 : List (S51)) (a0_1 : Int) (A1 : Option Addr) (c1 : Nat) (l1 : List ByteArray) (r : Bool) (w : World) (hr0_0 : Kd.C k51 w A0_0 l0_0.length l0_0) (hc0_0 : l0_0.length ≤ c0_0) (hr1 : Kd.C Kd.string w A1 l1.length l1) (hc1 : l1.length ≤ c1) (h : impl_ready.f k l0_0 a0_1 l1 = some r) (hG : GOk w := by exact gk_ oB (by first | (with_reducible assumption) | assumption)) :
  Calls Tryz.prog 46 #[.agg #[.slice A0_0 l0_0.length c0_0, .int .i64 a0_1], .slice A1 l1.length c1] w fun e w' => e = .returned (.bool r) ∧ Below w.heap.size w w' := by
 have HG := Aside0.mk hG
 clear hG
 have hu26 := Tryz.underlying26
 have HR0_0 := Aside0.mk hr0_0
 have HC0_0 := Aside0.mk hc0_0
 clear hr0_0 hc0_0
 have HR1 := Aside0.mk hr1
 have HC1 := Aside0.mk hc1
 clear hr1 hc1
 have HB := Aside0.mk (Below.refl w.heap.size w)
 unfold impl_ready.f at h
 have H := h
 clear h
 have H' := Aside0.mk H
 clear H
 go_enter Tryz.func46, Tryz.ntmps46
 go_wp2_with (first | ((with_reducible refine gate_dst (N := 2) rfl ?_); refine bx_ 2 #[.slice A0_0 l0_0.length c0_0, .int .i64 a0_1] 26 ?_; intro gb267 hg w3 hbox hb; have BK267 := Aside0.mk (hbox); have GW267 := gs_ hg; replace HB := Aside0.mk (below_step oB hb); clear hb hbox hg))
 go_loopg [11] k (fun kq v11 w' => ∃ (x11_1 : Int), v11 = .int .i64 x11_1 ∧ Aside0 (impl_ready.l0 kq l1 (l1.length : Int) x11_1 l0_0 a0_1 = some r) ∧ Aside0 (kq ≤ k) ∧ Aside0 (w'.heap[gb267]? = some (.cells #[(.slice A0_0 l0_0.length c0_0), .int .i64 a0_1] 26 (0, 0))) ∧ Aside0 (Below w.heap.size w w'))
 case atStart => exact ⟨(0), oS, H', ⟨Nat.le_refl _⟩, ⟨oF BK267⟩, ⟨oB⟩⟩
 case round =>
  clear H'
  try clear c1
  obtain ⟨x11_1, rfl, HA, HK1, BK267, HB⟩ := hrel
  cases gk with
  | zero => exact absurd HA.out (by simp [impl_ready.l0])
  | succ k1 =>
   have H := HA.out
   clear HA
   simp only [impl_ready.l0] at H
   replace H := itD H
   rcases H with ⟨c4b0, H⟩ | ⟨c4b0, H⟩
   ·replace H := itD H
    rcases H with ⟨c5b0, H⟩ | ⟨c5b0, H⟩
    ·replace H := itD H
     rcases H with ⟨c6b0, H⟩ | ⟨c6b0, H⟩
     ·replace H := bA H
      obtain ⟨⟨t269, t270⟩, A7, H⟩ := H
      try dsimp only at H
      replace H := itB H
      rcases H with ⟨rfl, H⟩ | ⟨rfl, H⟩
      ·have H' := Aside0.mk H
       clear H
       have p268 : (0 ≤ (x11_1 : Int)) = True := oT
       have q268 : (x11_1 < (l1.length : Int)) = True := oT
       obtain ⟨ad268, e268, hx268_0⟩ := Kd.at_string HR1.out x11_1 oa oa
       cases e268
       replace hx268_0 := cB HB hx268_0
       go_wp2_with (first | ((with_reducible refine gate_callee (f := 16) rfl ?_); refine gl_ 17 Tryz.func16 (impl_SplitPath.calls k1 (rdOf ByteArray.empty l1 x11_1) t269 true _ A7.out) ?_; rintro e w9 ⟨v271, rfl, ho0, hb⟩; refine ⟨_, rfl, ?_⟩; have HO272 := Aside0.mk (Kd.Q_lower ho0 (below_size oB)); replace BK267 := kb_ BK267 hb; replace HB := Aside0.mk (below_step oB hb)))
       go_roundg k1
       case measure => have := HK1.out; omega
       case rel => exact ⟨(wrap64 (x11_1 + 1)), oS, H', ⟨by have := HK1.out; omega⟩, ⟨oF BK267⟩, ⟨oB⟩⟩
      ·obtain rfl := Option.some.inj H
       have p268 : (0 ≤ (x11_1 : Int)) = True := oT
       have q268 : (x11_1 < (l1.length : Int)) = True := oT
       obtain ⟨ad268, e268, hx268_0⟩ := Kd.at_string HR1.out x11_1 oa oa
       cases e268
       replace hx268_0 := cB HB hx268_0
       go_wp2_with (first | ((with_reducible refine gate_callee (f := 16) rfl ?_); refine gl_ 17 Tryz.func16 (impl_SplitPath.calls k1 (rdOf ByteArray.empty l1 x11_1) t269 false _ A7.out) ?_; rintro e w10 ⟨v271, rfl, ho0, hb⟩; refine ⟨_, rfl, ?_⟩; have HO272 := Aside0.mk (Kd.Q_lower ho0 (below_size oB)); replace BK267 := kb_ BK267 hb; replace HB := Aside0.mk (below_step oB hb)))
       go_ret
       exact ⟨oE, oB⟩
     ·cases H
    ·cases H
   ·replace H := bA H
    obtain ⟨t273, A11, H⟩ := H
    try dsimp only at H
    obtain rfl := Option.some.inj H
    obtain ⟨⟨_, _⟩, _, _⟩ := z2 BK267
    go_wp2_with (first | ((with_reducible refine gate_callee (f := 17) rfl ?_); refine gl_ 24 Tryz.func17 (impl_TreeOk.calls k1 _ _ l0_0 a0_1 t273 _ (kC HR0_0) HC0_0.out A11.out) ?_; rintro e w13 ⟨rfl, hb⟩; refine ⟨_, rfl, ?_⟩; replace BK267 := kb_ BK267 hb; replace HB := Aside0.mk (below_step oB hb)))
    go_ret
    exact ⟨oE, oB⟩

-- NOT PRINTED: function 107 (impl_Inode_107)

-- NOT PRINTED: function 146 (slices_Reverse_Inode)

-- NOT PRINTED: function 132 (impl_Inode_132)

-- NOT PRINTED: function 108 (impl_Inode_108)

/-! ### slices_Insert_Inode: function 75 -/
/-- copy of elements of several cells. -/
theorem run_copyZInode {P : Program} (w : World) (dT sT ty elem : TypeId) (b o dLen dCap : Nat) (a : Addr) (sLen sCap n : Nat) (cs : List Value)
  (hu : P.underlying dT = some (.slice elem)) (hs : (P.info? elem).map (·.size) = some 6) (hm : Nat.min sLen dLen = n) (hn : cs.length = n * 6)
  (hsrc : ∀ j v, cs[j]? = some v → w.cell? (a.add j) = some v) (hc : ∀ j, j < cs.length → (w.cell? ⟨b, o + j, none⟩).isSome = true) (hf : ∀ j, j < cs.length → w.frozen? ⟨b, o + j, none⟩ = false) (h1 : ∀ v ∈ cs, v.oneCell' = true) :
  (Builtin.copy_ #[dT, sT] ty #[.slice (some ⟨b, o, none⟩) dLen dCap, .slice (some a) sLen sCap]).run P w = .ok (goInt n) (w.setCells b o cs) := by
 have hl := run_loadCells_list (P := P) w a cs hsrc
 have hst := run_storeCells_cells (P := P) b o cs 0 w (by simpa using hc) (by simpa using hf) h1
 cases hq : P.info? elem with
 | none => simp [hq] at hs
 | some i =>
  have hi : i.size = 6 := by simpa [hq] using hs
  simp [Builtin.copy_, run_underlying hu, Builtin.lenOf, Builtin.firstCells, sizeOf, typeInfo, hq, hi, hm, ← hn, hl, hst]
theorem wpList_copyZInode {P : Program} (w : World) {ops : Array Oper} {rest : List Oper} {o : Oper} {a : Act} {Q : Exit → Act → World → Prop} (hgd : o.guard = none) (d s : Operand) (t t' : TypeId)
  (ho : o.op = .call { callee := .builtin .copy, args := #[d, s], argTypes := #[t, t'] }) (v u : Value) (hd : a.eval d = v) (hs : a.eval s = u) {v' : Value} {w' : World}
  (hr : (Builtin.copy_ #[t, t'] o.type #[v, u]).run P w = .ok v' w') (h : wpList P ops Q rest (a.put o.dst v') w') : wpList P ops Q (o :: rest) a w :=
 wpList_plain hgd fun K hK => by
  unfold Oper.wp execOp
  simp only [ho, resolve, invoke, builtin, Sem.run_bind, Sem.run_pure, Result.andThen_ok, List.map_toArray, List.map_cons, List.map_nil, hd, hs, hr]
  exact hK _ _ h
theorem step_copyZInode {P : Program} {ops : Array Oper} {o : Oper} {a : Act} {w : World} {K : Act → World → Prop} {Q : Exit → Act → World → Prop} {E : Prop}
  (hg : o.guard = none) (d x : Operand) (dT sT : TypeId) (hop : o.op = Op.call { callee := Callee.builtin Builtin.copy, args := #[d, x], argTypes := #[dT, sT] })
  (v u : Value) (hd : a.eval d = v) (hx : a.eval x = u) {v' : Value} {w' : World} (hr : (Builtin.copy_ #[dT, sT] o.type #[v, u]).run P w = .ok v' w') (hK : K (a.put o.dst v') w') :
  if Region.wanted o (yielded ops a.tmps) = true then Oper.wp P o a w K Q else E := by
 have hw : Region.wanted o (yielded ops a.tmps) = true := by simp [Region.wanted, hg]
 rw [if_pos hw]
 unfold Oper.wp
 simp [execOp, hop, resolve, invoke, builtin, hd, hx, hr, Result.andThen]
 exact hK
set_option maxHeartbeats 4000000 in
set_option maxRecDepth 100000 in
theorem insInode_shift.calls (g n c i vb : Nat) (cur : Array Value) (inner vs : List Value) (w : World) (hi : i < n) (hroom : n + 1 ≤ c) (hc63 : c ≤ 9223372036854775807) (hvb : vb ≠ g)
  (hb : w.heap[g]? = some (.cells cur 51 (0, 0))) (hcs : cur.size = c * 6) (hin : cur.toList.take (n * 6) = inner) (hv : w.heap[vb]? = some (.cells vs.toArray 51 (0, 0))) (hvl : vs.length = 6)
  (h1c : ∀ u ∈ inner, u.oneCell' = true) (h1v : ∀ u ∈ vs, u.oneCell' = true) :
  Calls Tryz.prog 75 #[.slice (some ⟨g, 0, none⟩) n c, .int .i64 i, .slice (some ⟨vb, 0, none⟩) 1 1] w fun e w' =>
   e = .returned (.slice (some ⟨g, 0, none⟩) (n + 1) c) ∧ w' = (w.drew.setCells g ((i + 1) * 6) (inner.drop (i * 6))).setCells g (i * 6) vs := by
 have hu := Tryz.underlying24
 have mixed : Tryz.prog.follows .mixedOrders = true := by kernel_rfl
 have hz1 : ¬ ((1 : Int) = 0) := by omega
 have hz2 : ¬ ((i : Int) = (n : Int)) := by omega
 have hsz : (Tryz.prog.info? 51).map (·.size) = some 6 := by kernel_rfl
 have hil : inner.length = n * 6 := by rw [← hin, List.length_take, Array.length_toList]; omega
 have hdl : (inner.drop (i * 6)).length = (n - i) * 6 := by rw [List.length_drop, hil]; omega
 have hcur : ∀ j, w.cell? ⟨g, j, none⟩ = cur[j]? := fun j => blk_cell hb j
 have hcell : ∀ j u, inner[j]? = some u → w.cell? ⟨g, j, none⟩ = some u := fun j u hj => by
  rw [hcur, ← hj, ← hin, List.getElem?_take]
  have : j < inner.length := (List.getElem?_eq_some_iff.1 hj).1
  rw [if_pos (by omega), Array.getElem?_toList]
 have hsp : ∀ j, j < (n + 1) * 6 → (w.cell? ⟨g, j, none⟩).isSome = true := fun j hj => by rw [hcur, Array.getElem?_eq_getElem (by omega)]; rfl
 have hfz : ∀ j, w.frozen? ⟨g, j, none⟩ = false := fun j => blk_frozen hb j
 have hvc : ∀ j u, vs[j]? = some u → w.cell? ⟨vb, j, none⟩ = some u := fun j u hj => by rw [blk_cell hv j, List.getElem?_toArray, hj]
 have hov : ∀ lb cb, (callFunc 107 #[.slice (some ⟨vb, 0, none⟩) 1 1, .slice (some ⟨g, (i + 1) * 6, none⟩) lb cb]).run Tryz.prog w = .ok (.value (.bool false)) w := fun lb cb => by
  rw [run_callFunc_extern Tryz.func107 (by kernel_rfl) (by kernel_rfl) (by kernel_rfl) (e := Extern.SlicesOverlaps.overlaps #[24, 24] #[4]) (by kernel_rfl),
   Lib.run_overlaps_apart w 24 4 51 Tryz.underlying24 6 Tryz.sizeOf51 ⟨vb, 0, none⟩ ⟨g, (i + 1) * 6, none⟩ 1 1 lb cb hvb 51 51 vs.length cur.size (by simp [World.shape?, hv]) (by simp [World.shape?, hb]) (by omega) (blk_frozen hv 0) (blk_frozen hv _)]
  rfl
 have hw1 : IntKind.i64.wrap ((i : Int) + (1 : Int)) = (i : Int) + (1 : Int) := by rw [IntKind.wrap_i64]; omega
 have hw2 : IntKind.i64.wrap ((n : Int) + (1 : Int)) = (n : Int) + (1 : Int) := by rw [IntKind.wrap_i64]; omega
 have hb1 : (0 : Int) ≤ (i : Int) + (1 : Int) := by omega
 have hin' : i ≤ n := by omega
 have htn : ((i : Int) + (1 : Int)).toNat = i + 1 := by omega
 have htn2 : ((n : Int) + (1 : Int)).toNat = n + 1 := by omega
 have hb2 : ¬ (c = i + 1) := by omega
 have hb3 : (i : Int) ≤ (n : Int) + (1 : Int) := by omega
 have hb4 : ¬ (c = i) := by omega
 have hcp1 : ∀ ty dl dc sl sc, dl = n - i → sl = n + 1 - i → (Builtin.copy_ #[24, 24] ty #[.slice (some ⟨g, (i + 1) * 6, none⟩) dl dc, .slice (some ⟨g, i * 6, none⟩) sl sc]).run Tryz.prog w.drew = .ok (goInt ((n - i : Nat) : Int)) (w.drew.setCells g ((i + 1) * 6) (inner.drop (i * 6))) := fun ty dl dc sl sc hdl_ hsl_ =>
  run_copyZInode w.drew _ _ ty 51 g ((i + 1) * 6) dl dc ⟨g, i * 6, none⟩ sl sc (n - i) (inner.drop (i * 6)) Tryz.underlying24 hsz (by simp only [Nat.min_def]; split <;> omega) hdl
   (fun j v hj => by rw [Addr.add_lit]; exact hcell (i * 6 + j) v (by rwa [List.getElem?_drop] at hj))
   (fun j hj => hsp _ (by omega)) (fun j hj => hfz _) (fun v hv => h1c v (List.mem_of_mem_drop hv))
 obtain ⟨W1, hW1⟩ : ∃ W1, W1 = w.drew.setCells g ((i + 1) * 6) (inner.drop (i * 6)) := ⟨_, rfl⟩
 obtain ⟨cur1, hh1, hs1, _⟩ := setCells_row (inner.drop (i * 6)) ((i + 1) * 6) w.drew cur hb (by omega)
 have hcp2 : ∀ (W : World), W.heap = W1.heap → ∀ ty dc, (Builtin.copy_ #[24, 24] ty #[.slice (some ⟨g, i * 6, none⟩) (n + 1 - i) dc, .slice (some ⟨vb, 0, none⟩) 1 1]).run Tryz.prog W = .ok (goInt 1) (W.setCells g (i * 6) vs) := fun W hWh ty dc =>
  run_copyZInode W _ _ ty 51 g (i * 6) (n + 1 - i) dc ⟨vb, 0, none⟩ 1 1 1 vs Tryz.underlying24 hsz (by simp only [Nat.min_def]; split <;> omega) (by omega)
   (fun j v hj => by
    rw [Addr.add_lit, Nat.zero_add]
    rw [show W.cell? ⟨vb, j, none⟩ = w.cell? ⟨vb, j, none⟩ from by rw [blk_cell (w := W) (g := vb) (cs := vs.toArray) (t := 51) (by rw [hWh, hW1, setCells_far _ _ _ hvb]; exact hv) j, blk_cell hv j]]
    exact hvc j v hj)
   (fun j hj => by rw [blk_cell (w := W) (g := g) (cs := cur1) (t := 51) (by rw [hWh, hW1]; exact hh1), Array.getElem?_eq_getElem (by omega)]; rfl) (fun j hj => blk_frozen (w := W) (g := g) (cs := cur1) (t := 51) (by rw [hWh, hW1]; exact hh1) _) h1v
 rw [← hW1] at hcp1
 go_enter Tryz.func75, Tryz.ntmps75
 go_wp2_with (simp only [hov])
 go_region_law_o (refine step_copyZInode rfl _ _ 24 24 rfl (.slice (some ⟨g, (i + 1) * 6, none⟩) (n + 1 - (i + 1)) (c - (i + 1))) (.slice (some ⟨g, i * 6, none⟩) (n + 1 - i) (c - i)) (by simp [Act.eval, Act.put]) (by simp [Act.eval, Act.put]) (hcp1 _ _ _ _ _ (by omega) (by omega)) ?_)
 go_wp2_with (at_builtin; refine wpList_copyZInode _ rfl _ _ 24 24 rfl _ _ rfl rfl (hcp2 _ rfl _ _) ?_)
 go_ret
 first | exact ⟨rfl, rfl⟩ | exact ⟨rfl, by rw [hW1]⟩
theorem infoInode : (Tryz.prog.info? 51).map (fun i => (i.zero, i.size, i.bytes)) = some (some (Value.agg #[.int .i64 0, .int .i64 0, .int .i64 0, .slice none 0 0, .slice none 0 0, .slice none 0 0]), 6, 96) := by kernel_rfl
theorem oneInode (w : World) (vb : Nat) (vs : List Value) (hv : w.heap[vb]? = some (.cells vs.toArray 51 (0, 0))) (hvl : vs.length = 6) (h1v : ∀ u ∈ vs, u.oneCell' = true) : ReadsRow ((Kd.raw 6).K w) 6 w (some ⟨vb, 0, none⟩) 1 [vs] := by
 refine ⟨rfl, by decide, fun _ => ⟨⟨vb, 0, none⟩, rfl, fun j p hj => ?_⟩⟩
 cases j with
 | zero =>
  obtain rfl : vs = p := by simpa using hj
  refine ⟨vs, hvl, ⟨rfl, hvl, h1v⟩, fun i u hu => ?_⟩
  rw [Nat.zero_mul, Nat.zero_add, Addr.add_lit, Nat.zero_add, blk_cell hv i, List.getElem?_toArray, hu]
 | succ j => simp at hj
set_option maxHeartbeats 4000000 in
set_option maxRecDepth 100000 in
theorem insInode_end.calls (A : Option Addr) (n c vb base : Nat) (rows : List (List Value)) (vs : List Value) (w0 w : World) (hn : rows.length = n)
  (hr : (Kd.raw 6).R 51 w base (fun k => some k = (Value.slice A n c).ownBlock ∨ w.heap.size ≤ k) (.slice A n c) rows) (hv : w.heap[vb]? = some (.cells vs.toArray 51 (0, 0))) (hvl : vs.length = 6) (h1v : ∀ u ∈ vs, u.oneCell' = true)
  (hB : Below base w0 w) (hbase : base ≤ w.heap.size) (hbig : (n + 1) * 96 ≤ 140737488355328) :
  Calls Tryz.prog 75 #[.slice A n c, .int .i64 n, .slice (some ⟨vb, 0, none⟩) 1 1] w fun e w' => ∃ v', e = .returned v' ∧ (Kd.raw 6).R 51 w' base (fun k => some k = (Value.slice A n c).ownBlock ∨ w.heap.size ≤ k) v' (rows ++ [vs]) ∧
   Below base w0 w' ∧ w.grownBy w' (Value.slice A n c).ownBlock ∧ (v'.ownBlock = (Value.slice A n c).ownBlock ∨ ∃ b, v'.ownBlock = some b ∧ w.heap.size ≤ b) := by
 have hu := Tryz.underlying24
 have hz1 : ¬ ((1 : Int) = 0) := by omega
 have ho := oneInode w vb vs hv hvl h1v
 have hr' := hr
 obtain ⟨hok, inner, hown, hrep⟩ := hr'
 go_enter Tryz.func75, Tryz.ntmps75
 rcases A with _ | ad
 ·obtain ⟨rfl, rfl⟩ : n = 0 ∧ c = 0 := by
   rcases hown.2 with ⟨h1, h2⟩ | ⟨g', cap', cur, h1, _⟩
   ·injection h1 with _ a b; exact ⟨a, b⟩
   ·cases h1
  go_wp2_with (at_builtin; refine Kd.R_append_rows (Kd.raw 6) (Rr := (Kd.raw 6).K w) (w0 := w0) base rfl _ _ 24 51 (Value.agg #[.int .i64 0, .int .i64 0, .int .i64 0, .slice none 0 0, .slice none 0 0, .slice none 0 0]) 96 rfl hu infoInode rfl (by decide) (by decide) _ rows [vs] (some ⟨vb, 0, none⟩) 1 1 _ (fun _ => False) rfl rfl hr ho (fun x cs h => h) (fun _ h => h.elim) (fun k hk => .inr hk) hB hbase (by omega) ?_; intro v1 w1 h1 h2 h3 h4)
  go_ret
  exact ⟨_, rfl, h1, h2, h3, h4⟩
 ·obtain ⟨g, rfl⟩ := Kd.R_head hr
  have hnc : n ≤ c := (Kd.R_reads' hr).2.1
  go_wp2_with (at_builtin; refine Kd.R_append_rows (Kd.raw 6) (Rr := (Kd.raw 6).K w) (w0 := w0) base rfl _ _ 24 51 (Value.agg #[.int .i64 0, .int .i64 0, .int .i64 0, .slice none 0 0, .slice none 0 0, .slice none 0 0]) 96 rfl hu infoInode rfl (by decide) (by decide) _ rows [vs] (some ⟨vb, 0, none⟩) 1 1 _ (fun _ => False) rfl rfl hr ho (fun x cs h => h) (fun _ h => h.elim) (fun k hk => .inr hk) hB hbase (by omega) ?_; intro v1 w1 h1 h2 h3 h4)
  all_goals (go_ret; exact ⟨_, rfl, h1, h2, h3, h4⟩)
set_option maxHeartbeats 4000000 in
set_option maxRecDepth 100000 in
theorem insInode_grow.calls (g n c i vb : Nat) (cur : Array Value) (inner vs : List Value) (w : World) (hi : i < n) (hnc : n ≤ c) (hroom : c < n + 1) (hbig : (n + 1) * 96 ≤ 140737488355328)
  (hb : w.heap[g]? = some (.cells cur 51 (0, 0))) (hcs : cur.size = c * 6) (hin : cur.toList.take (n * 6) = inner) (hv : w.heap[vb]? = some (.cells vs.toArray 51 (0, 0))) (hvl : vs.length = 6)
  (h1c : ∀ u ∈ inner, u.oneCell' = true) (h1v : ∀ u ∈ vs, u.oneCell' = true) :
  Calls Tryz.prog 75 #[.slice (some ⟨g, 0, none⟩) n c, .int .i64 i, .slice (some ⟨vb, 0, none⟩) 1 1] w fun e w' => ∃ (G : Nat) (ROW : Array Value), n + 1 ≤ G ∧ G ≤ 9223372036854775807 ∧ ROW.size = G * 6 ∧ ROW.toList.take (i * 6) = inner.take (i * 6) ∧
   e = .returned (.slice (some ⟨w.heap.size, 0, none⟩) (n + 1) G) ∧ w' = (((w.alloc (.cells ROW 51)).drew.setCells w.heap.size (i * 6) vs).drew).setCells w.heap.size ((i + 1) * 6) (inner.drop (i * 6)) := by
 have hu := Tryz.underlying24
 have mixed : Tryz.prog.follows .mixedOrders = true := by kernel_rfl
 obtain ⟨i0, hi0, hz0, hzs, hzb⟩ := info_parts infoInode
 have hsz : (Tryz.prog.info? 51).map (·.size) = some 6 := by rw [hi0]; simp [hzs]
 have hz1 : ¬ ((1 : Int) = 0) := by omega
 have hz2 : ¬ ((i : Int) = (n : Int)) := by omega
 have hz3 : (c : Int) < (n : Int) + (1 : Int) := by omega
 have hil : inner.length = n * 6 := by rw [← hin, List.length_take, Array.length_toList]; omega
 have hdl : (inner.drop (i * 6)).length = (n - i) * 6 := by rw [List.length_drop, hil]; omega
 have hgw : g < w.heap.size := blk_lt hb
 have hvw : vb < w.heap.size := blk_lt hv
 have hcell : ∀ j u, inner[j]? = some u → w.cell? ⟨g, j, none⟩ = some u := fun j u hj => by
  rw [blk_cell hb j, ← hj, ← hin, List.getElem?_take]
  have : j < inner.length := (List.getElem?_eq_some_iff.1 hj).1
  rw [if_pos (by omega), Array.getElem?_toList]
 have hvc : ∀ j u, vs[j]? = some u → w.cell? ⟨vb, j, none⟩ = some u := fun j u hj => by rw [blk_cell hv j, List.getElem?_toArray, hj]
 have hkk : (n : Int) + (1 : Int) - (i : Int) = ((n + 1 - i : Nat) : Int) := by omega
 have hik : i + (n + 1 - i) = n + 1 := by omega
 have hold : (Builtin.firstCells i0.size i (.slice (some ⟨g, 0, none⟩) i c)).run Tryz.prog w.drew = .ok (inner.take (i * 6)).toArray w.drew := by
  rw [hzs]
  exact run_firstCells_some w.drew 6 i ⟨g, 0, none⟩ i c (inner.take (i * 6)) (by rw [List.length_take]; omega) (fun j v hj => by
   rw [Addr.add_lit, Nat.zero_add]
   rw [List.getElem?_take] at hj
   split at hj
   ·exact hcell j v hj
   ·cases hj)
 have hrz : ∀ ty, (Builtin.append_ #[24, 3] ty #[.slice (some ⟨g, 0, none⟩) i c, .int .i64 ((n : Int) + (1 : Int) - (i : Int))]).run Tryz.prog w =
   .ok (.slice (some ⟨w.heap.size, 0, none⟩) (n + 1) (grownCap w (n + 1) c 51)) (w.drew.alloc (.cells ((inner.take (i * 6)).toArray ++ Builtin.zeroCells (Value.agg #[.int .i64 0, .int .i64 0, .int .i64 0, .slice none 0 0, .slice none 0 0, .slice none 0 0]).cells (n + 1 - i) ++ Builtin.zeroCells (Value.agg #[.int .i64 0, .int .i64 0, .int .i64 0, .slice none 0 0, .slice none 0 0, .slice none 0 0]).cells (grownCap w (n + 1) c 51 - (n + 1))) 51)) := fun ty => by
  have h := Lib.run_append_grow_zeros w 24 3 ty 51 i0 _ .i64 .i64 hu Tryz.underlying3 hi0 hz0 (some ⟨g, 0, none⟩) i c (inner.take (i * 6)) hold (n + 1 - i) (by omega) (by omega) (by omega) (by omega) (by rw [hzb]; omega) (by rw [hzb, hik]; exact growslice_fits hroom hbig)
  rw [hik] at h
  rw [hkk]
  exact h
 obtain ⟨G, hG⟩ : ∃ G, G = grownCap w (n + 1) c 51 := ⟨_, rfl⟩
 have hGn : n + 1 ≤ G := by rw [hG]; exact grownCap_ge w _ _ _
 have hG63 : G ≤ 9223372036854775807 := by
  have := grownCap_le_maxLen w (n + 1) c 51 (by unfold maxLen; omega)
  rw [← hG] at this
  unfold maxLen at this
  omega
 obtain ⟨ROW, hROW⟩ : ∃ ROW : Array Value, ROW = (inner.take (i * 6)).toArray ++ Builtin.zeroCells (Value.agg #[.int .i64 0, .int .i64 0, .int .i64 0, .slice none 0 0, .slice none 0 0, .slice none 0 0]).cells (n + 1 - i) ++ Builtin.zeroCells (Value.agg #[.int .i64 0, .int .i64 0, .int .i64 0, .slice none 0 0, .slice none 0 0, .slice none 0 0]).cells (G - (n + 1)) := ⟨_, rfl⟩
 rw [← hG] at hrz
 rw [← hROW] at hrz
 have hzc : (Value.agg #[.int .i64 0, .int .i64 0, .int .i64 0, .slice none 0 0, .slice none 0 0, .slice none 0 0]).cells.size = 6 := rfl
 have hRl : ROW.size = G * 6 := by
  rw [hROW]
  simp only [Array.size_append, List.size_toArray, List.length_take, Builtin.zeroCells, Array.size_map, Array.size_range, hzc]
  omega
 have hRt : ROW.toList.take (i * 6) = inner.take (i * 6) := by
  rw [hROW, Array.toList_append, Array.toList_append, List.append_assoc, List.take_append_of_le_length (by rw [List.length_take]; omega), List.take_of_length_le (by rw [List.length_take]; omega)]
 have hblk : ∀ W : World, W.heap = (w.drew.alloc (.cells ROW 51)).heap → W.heap[w.heap.size]? = some (.cells ROW 51 (0, 0)) := fun W h => by rw [h]; exact blk_new w.drew _
 have hcpA : ∀ (W : World), W.heap = (w.drew.alloc (.cells ROW 51)).heap → ∀ ty dc, (Builtin.copy_ #[24, 24] ty #[.slice (some ⟨w.heap.size, i * 6, none⟩) (n + 1 - i) dc, .slice (some ⟨vb, 0, none⟩) 1 1]).run Tryz.prog W = .ok (goInt 1) (W.setCells w.heap.size (i * 6) vs) := fun W hWh ty dc =>
  run_copyZInode W _ _ ty 51 w.heap.size (i * 6) (n + 1 - i) dc ⟨vb, 0, none⟩ 1 1 1 vs hu hsz (by simp only [Nat.min_def]; split <;> omega) (by omega)
   (fun j v hj => by
    rw [Addr.add_lit, Nat.zero_add, blk_cell (w := W) (g := vb) (cs := vs.toArray) (t := 51) (by rw [hWh]; exact blk_alloc (blk_drew hv) _) j, List.getElem?_toArray, hj])
   (fun j hj => by rw [blk_cell (hblk W hWh), Array.getElem?_eq_getElem (by omega)]; rfl) (fun j hj => blk_frozen (hblk W hWh) _) h1v
 obtain ⟨cur1, hh1, hs1, _⟩ := setCells_row vs (i * 6) (w.drew.alloc (.cells ROW 51)) ROW (blk_new w.drew _) (by omega)
 have hcpB : ∀ (W : World), W.heap = ((w.drew.alloc (.cells ROW 51)).setCells w.heap.size (i * 6) vs).heap → ∀ ty dl dc sl sc, dl = n - i → sl = n - i → (Builtin.copy_ #[24, 24] ty #[.slice (some ⟨w.heap.size, (i + 1) * 6, none⟩) dl dc, .slice (some ⟨g, i * 6, none⟩) sl sc]).run Tryz.prog W = .ok (goInt ((n - i : Nat) : Int)) (W.setCells w.heap.size ((i + 1) * 6) (inner.drop (i * 6))) := fun W hWh ty dl dc sl sc hdl_ hsl_ =>
  run_copyZInode W _ _ ty 51 w.heap.size ((i + 1) * 6) dl dc ⟨g, i * 6, none⟩ sl sc (n - i) (inner.drop (i * 6)) hu hsz (by simp only [Nat.min_def]; split <;> omega) hdl
   (fun j v hj => by
    rw [Addr.add_lit]
    have h2 := hcell (i * 6 + j) v (by rwa [List.getElem?_drop] at hj)
    rw [blk_cell hb] at h2
    rw [blk_cell (w := W) (g := g) (cs := cur) (t := 51) (by rw [hWh, setCells_far _ _ _ (by omega)]; exact blk_alloc (blk_drew hb) _)]
    exact h2)
   (fun j hj => by rw [blk_cell (w := W) (g := w.heap.size) (cs := cur1) (t := 51) (by rw [hWh]; exact hh1), Array.getElem?_eq_getElem (by omega)]; rfl) (fun j hj => blk_frozen (w := W) (g := w.heap.size) (cs := cur1) (t := 51) (by rw [hWh]; exact hh1) _) (fun v hv => h1c v (List.mem_of_mem_drop hv))
 have hGi : ¬ (G = i) := by omega
 have hGim : ¬ (G = i + 1) := by omega
 have hci : ¬ (c = i) := by omega
 have hw1 : IntKind.i64.wrap ((i : Int) + (1 : Int)) = (i : Int) + (1 : Int) := by rw [IntKind.wrap_i64]; omega
 have hw2 : IntKind.i64.wrap ((n : Int) + (1 : Int)) = (n : Int) + (1 : Int) := by rw [IntKind.wrap_i64]; omega
 have hw3 : IntKind.i64.wrap ((n : Int) + (1 : Int) - (i : Int)) = (n : Int) + (1 : Int) - (i : Int) := by rw [IntKind.wrap_i64]; omega
 have hb1 : (0 : Int) ≤ (i : Int) + (1 : Int) := by omega
 have hin' : i ≤ n := by omega
 have htn : ((i : Int) + (1 : Int)).toNat = i + 1 := by omega
 have hb3 : (i : Int) ≤ (n : Int) := by omega
 clear hkk hik hold hROW hG hblk hh1 hs1
 go_enter Tryz.func75, Tryz.ntmps75
 go_wp2_with (first
  | (at_builtin; refine Lib.wpList_append_run _ rfl _ _ _ _ rfl _ _ rfl rfl _ _ (hrz _) ?_)
  | (refine wpList_copyZInode _ rfl _ _ 24 24 rfl _ _ rfl rfl (hcpA _ rfl _ _) ?_))
 go_region_law_o (refine step_copyZInode rfl _ _ 24 24 rfl (.slice (some ⟨w.heap.size, (i + 1) * 6, none⟩) (n + 1 - (i + 1)) (G - (i + 1))) (.slice (some ⟨g, i * 6, none⟩) (n - i) (c - i)) (by simp [Act.eval, Act.put]) (by simp [Act.eval, Act.put]) (hcpB ((((w.alloc (.cells ROW 51)).drew).setCells w.heap.size (i * 6) vs).drew) (by rfl) _ _ _ _ _ (by omega) (by omega)) ?_)
 go_wp2
 go_ret
 exact ⟨G, ROW, hGn, hG63, hRl, hRt, rfl, rfl⟩
/-- slices.Insert of one element: the row with it. -/
theorem insInode.calls (A : Option Addr) (n c i vb base : Nat) (ok : Nat → Prop) (rows : List (List Value)) (vs : List Value) (w0 w : World) (hi : i ≤ n) (hn : rows.length = n) (hr : (Kd.raw 6).R 51 w base ok (.slice A n c) rows)
  (hv : w.heap[vb]? = some (.cells vs.toArray 51 (0, 0))) (hvb : some vb ≠ (Value.slice A n c).ownBlock) (hvl : vs.length = 6) (h1v : ∀ u ∈ vs, u.oneCell' = true) (hB : Below base w0 w) (hbase : base ≤ w.heap.size) (hbig : (n + 1) * 96 ≤ 140737488355328) :
  Calls Tryz.prog 75 #[.slice A n c, .int .i64 i, .slice (some ⟨vb, 0, none⟩) 1 1] w fun e w' => ∃ v', e = .returned v' ∧ (Kd.raw 6).R 51 w' base (fun k => some k = (Value.slice A n c).ownBlock ∨ w.heap.size ≤ k) v' (rows.take i ++ [vs] ++ rows.drop i) ∧
   Below base w0 w' ∧ w.grownBy w' (Value.slice A n c).ownBlock ∧ (v'.ownBlock = (Value.slice A n c).ownBlock ∨ ∃ b, v'.ownBlock = some b ∧ w.heap.size ≤ b) := by
 have hr' : (Kd.raw 6).R 51 w base (fun k => some k = (Value.slice A n c).ownBlock ∨ w.heap.size ≤ k) (.slice A n c) rows := ⟨fun k hk => .inl hk.symm, hr.2⟩
 rcases Nat.lt_or_ge i n with hlt | hge
 case inr =>
  obtain rfl : i = n := by omega
  rw [List.take_of_length_le (by omega), List.drop_of_length_le (by omega), List.append_nil]
  exact insInode_end.calls A i c vb base rows vs w0 w hn hr' hv hvl h1v hB hbase hbig
 case inl =>
 obtain ⟨hok, inner, ⟨hil, hown⟩, hrep⟩ := hr'
 rcases hown with ⟨he, h0⟩ | ⟨g, cap, cur, he, hbg, hh, hnc, hcm, hcs, hin⟩
 ·omega
 injection he with ha hnn hcc
 subst ha; subst hcc; subst hnn
 rw [show (Kd.raw 6).sz = 6 from rfl] at hil hcs hin hrep
 have h1c : ∀ u ∈ inner, u.oneCell' = true := Kd.reps_one hrep (by decide) (fun p c h => h.2.2)
 have hrI := reps_ins (i := i) hrep (by omega) hvl h1v
 have hgv : vb ≠ g := fun he => hvb (by rw [he]; rfl)
 have hpl : i * 6 ≤ inner.length := by rw [hil]; omega
 have hlen3 : (rows.take i ++ [vs] ++ rows.drop i).length = rows.length + 1 := by simp only [List.length_append, List.length_take, List.length_drop, List.length_singleton]; omega
 rcases Nat.lt_or_ge c (rows.length + 1) with hg | hroom
 ·refine (insInode_grow.calls g rows.length c i vb cur inner vs w hlt hnc hg hbig hh hcs hin hv hvl h1c h1v).mono ?_
  rintro e w' ⟨G, ROW, hGn, hG63, hRl, hRt, rfl, rfl⟩
  refine ⟨_, rfl, ?_, ?_, grown_alloc_two w _ _ _ _ _ _, .inr ⟨_, rfl, Nat.le_refl _⟩⟩
  ·obtain ⟨c1, k1, k2, k3⟩ := setCells_row (e := 51) vs (i * 6) (w.alloc (.cells ROW 51)).drew ROW (blk_drew (blk_new w _)) (by omega)
   obtain ⟨c2, l1, l2, l3⟩ := setCells_row (inner.drop (i * 6)) ((i + 1) * 6) _ c1 (blk_drew k1) (by rw [List.length_drop, k2, hil, hRl]; omega)
   have hm : G ≤ maxLen := hG63
   rw [hlen3.symm]
   refine rawR_of l1 (by rw [l2, k2, hRl]) (by omega) hm (by omega) (.inr (Nat.le_refl _)) rfl ?_
   rw [l3]
   have := ins_list2 ROW.toList inner vs (i * 6) 6 hvl hpl hRt c1.toList (by rw [Array.length_toList]; omega) k3
   rw [show (i + 1) * 6 = i * 6 + 6 by omega, show (rows.take i ++ [vs] ++ rows.drop i).length * 6 = inner.length + 6 by rw [hlen3, hil]; omega, this]
   exact hrI
  ·exact hB.grown (grown_alloc_two w _ _ _ _ _ none) hbase (fun k e => by cases e)
 ·refine (insInode_shift.calls g rows.length c i vb cur inner vs w hlt hroom (by unfold maxLen at hcm; omega) hgv hh hcs hin hv hvl h1c h1v).mono ?_
  rintro e w' ⟨rfl, rfl⟩
  refine ⟨_, rfl, ?_, ?_, grown_two w g _ _ _ _, .inl rfl⟩
  ·obtain ⟨c1, k1, k2, k3⟩ := setCells_row (inner.drop (i * 6)) ((i + 1) * 6) w.drew cur (blk_drew hh) (by rw [List.length_drop, hil, hcs]; omega)
   obtain ⟨c2, l1, l2, l3⟩ := setCells_row vs (i * 6) _ c1 k1 (by rw [k2, hcs]; omega)
   rw [hlen3.symm]
   refine rawR_of l1 (by rw [l2, k2, hcs]) (by omega) hcm hbg (.inl rfl) rfl ?_
   rw [l3]
   have := ins_list cur.toList inner vs (i * 6) 6 hvl hpl (by rw [← hin, List.take_take, Nat.min_eq_left (by omega)]) (by rw [Array.length_toList, hcs]; omega) c1.toList (by rw [k3, show (i + 1) * 6 = i * 6 + 6 by omega])
   rw [show (rows.take i ++ [vs] ++ rows.drop i).length * 6 = inner.length + 6 by rw [hlen3, hil]; omega, this]
   exact hrI
  ·exact hB.grown (grown_two w g _ _ _ _) hbase (fun k e => by injection e with e; omega)
/-! ### impl_SetInode: function 50 -/
theorem sOpenV {α : Type} {d : Kd α} {e : Nat} {W : World} {base : Nat} {ok : Nat → Prop} {v : Value} {xs : List α} (h : Kd.S d e W base ok v xs) :
  ∃ (rows : List (List Value)) (f : Nat → Nat), rows.length = xs.length ∧ (Kd.raw d.sz).R e W base (fun k => v.ownBlock = some k) v rows ∧ (∀ k, v.ownBlock = some k → ok k) ∧
   ∀ (q : Nat) (x : α), xs[q]? = some x → d.M W base (fun k => (ok k ∧ some k ≠ v.ownBlock) ∧ f k = q) x (rows.getD q []) := by
 obtain ⟨f, hok0, inner, ho, hr⟩ := h
 have hlen : inner.length = xs.length * d.sz := by have := hr.1; rw [List.length_zipIdx] at this; exact this
 have hM : ∀ (q : Nat) (x : α), xs[q]? = some x → d.M W base (fun k => (ok k ∧ some k ≠ v.ownBlock) ∧ f k = q) x ((inner.drop (q * d.sz)).take d.sz) := fun q x hx => hr.2 q (x, q) (Kd.zip_at hx)
 have hrow : ∀ q, q < xs.length → ((List.range xs.length).map fun j => (inner.drop (j * d.sz)).take d.sz)[q]? = some ((inner.drop (q * d.sz)).take d.sz) := fun q hq => by
  rw [List.getElem?_map, List.getElem?_range hq]; rfl
 refine ⟨(List.range xs.length).map fun j => (inner.drop (j * d.sz)).take d.sz, f, by rw [List.length_map, List.length_range], ⟨fun k hk => hk, inner, ?_, ?_, fun j p hj => ?_⟩, hok0, fun q x hx => ?_⟩
 ·rw [List.length_map, List.length_range]; rw [List.length_zipIdx] at ho; exact ho
 ·rw [List.length_map, List.length_range]; exact hlen
 ·rw [List.getElem?_map] at hj
  obtain ⟨j', hj', rfl⟩ := Option.map_eq_some_iff.1 hj
  obtain ⟨hl, he⟩ := List.getElem?_eq_some_iff.1 hj'
  rw [List.getElem_range] at he
  subst he
  rw [List.length_range] at hl
  have hm := d.K_of_M (hM j _ (List.getElem?_eq_getElem hl))
  exact ⟨rfl, d.K_len hm, d.K_one hm⟩
 ·have hq : q < xs.length := (List.getElem?_eq_some_iff.1 hx).1
  rw [List.getD_eq_getElem?_getD, hrow q hq]
  exact hM q x hx
theorem sCloseV {α : Type} {d : Kd α} {e : Nat} {W : World} {base : Nat} {ok okr : Nat → Prop} {v : Value} {xs : List α} {rows : List (List Value)} (f : Nat → Nat)
  (hraw : (Kd.raw d.sz).R e W base okr v rows) (hlen : rows.length = xs.length) (hok : ∀ k, v.ownBlock = some k → ok k)
  (hM : ∀ (q : Nat) (x : α), xs[q]? = some x → d.M W base (fun k => (ok k ∧ some k ≠ v.ownBlock) ∧ f k = q) x (rows.getD q [])) : Kd.S d e W base ok v xs := by
 obtain ⟨_, inner, ho, hr⟩ := hraw
 refine ⟨f, hok, inner, ?_, ?_, fun j p hj => ?_⟩
 ·rw [List.length_zipIdx, ← hlen]; exact ho
 ·rw [List.length_zipIdx, ← hlen]; exact hr.1
 ·rw [List.getElem?_zipIdx, Nat.zero_add] at hj
  obtain ⟨y, hy, rfl⟩ := Option.map_eq_some_iff.1 hj
  have hjl : j < rows.length := by rw [hlen]; exact (List.getElem?_eq_some_iff.1 hy).1
  have hrw := (hr.2 j _ (List.getElem?_eq_getElem hjl)).1
  show d.M W base _ y ((inner.drop (j * d.sz)).take d.sz)
  rw [show (inner.drop (j * d.sz)).take d.sz = rows[j] from hrw]
  have := hM j y hy
  rw [List.getD_eq_getElem?_getD, List.getElem?_eq_getElem hjl] at this
  exact this
theorem ins_at {α : Type} (l : List α) (x : α) (j q : Nat) (hj : j ≤ l.length) : (l.take j ++ [x] ++ l.drop j)[q]? = if q < j then l[q]? else if q = j then some x else l[q - 1]? := by
 have ht : (l.take j).length = j := by rw [List.length_take]; omega
 rw [List.append_assoc]
 by_cases h1 : q < j
 ·rw [if_pos h1, List.getElem?_append_left (by omega), List.getElem?_take, if_pos h1]
 ·rw [if_neg h1, List.getElem?_append_right (by omega), ht]
  by_cases h2 : q = j
  ·subst h2; rw [if_pos rfl, Nat.sub_self]; rfl
  ·rw [if_neg h2, show q - j = (q - j - 1) + 1 by omega]
   simp only [List.singleton_append, List.getElem?_cons_succ, List.getElem?_drop]
   rw [show j + (q - j - 1) = q - 1 by omega]
/-- A row of structs whose element i is written over with a new one (made from N on): a row again. -/
theorem s_set {α : Type} {d : Kd α} {e : Nat} {W W1 : World} {base N : Nat} {ok okx okr okf : Nat → Prop} {v : Value} {xs : List α} {rows : List (List Value)} {f : Nat → Nat} {i : Nat} {x : α} {vs : List Value}
  (hraw : (Kd.raw d.sz).R e W1 base okr v (rows.set i vs)) (hlen : rows.length = xs.length) (hi : i < xs.length)
  (hM : ∀ (q : Nat) (x : α), xs[q]? = some x → d.M W base (fun k => (ok k ∧ some k ≠ v.ownBlock) ∧ f k = q) x (rows.getD q [])) (hx : d.M W base okx x vs)
  (hv : ∀ k, v.ownBlock = some k → ok k) (hN : ∀ k, ok k → k < N) (hxN : ∀ k, okx k → N ≤ k) (hof : ∀ k, ok k ∨ okx k → okf k)
  (hmove : ∀ k, some k ≠ v.ownBlock → k < W.heap.size → W1.heap[k]? = W.heap[k]?) : Kd.S d e W1 base okf v (xs.set i x) := by
 refine sCloseV (fun k => if k < N then f k else i) hraw (by rw [List.length_set, List.length_set, hlen]) (fun k hk => hof k (.inl (hv k hk))) (fun q y hy => ?_)
 by_cases hq : q = i
 ·subst hq
  rw [List.getElem?_set_self hi] at hy
  injection hy with hy
  subst hy
  rw [List.getD_eq_getElem?_getD, List.getElem?_set_self (by omega)]
  have hne : ∀ k, okx k → some k ≠ v.ownBlock := fun k hk he => by have := hN k (hv k he.symm); have := hxN k hk; omega
  exact d.M_mono (fun k hk => ⟨⟨hof k (.inr hk), hne k hk⟩, by rw [if_neg (by have := hxN k hk; omega)]⟩) (Kd.M_step hx (fun k hk hlt => hmove k (hne k hk) hlt))
 ·rw [List.getElem?_set_ne (fun e => hq e.symm)] at hy
  rw [List.getD_eq_getElem?_getD, List.getElem?_set_ne (fun e => hq e.symm), ← List.getD_eq_getElem?_getD]
  exact d.M_mono (fun k hk => ⟨⟨hof k (.inl hk.1.1), hk.1.2⟩, by rw [if_pos (hN k hk.1.1)]; exact hk.2⟩) (Kd.M_step (hM q y hy) (fun k hk hlt => hmove k hk.1.2 hlt))
/-- The same where a new one is set in between. -/
theorem s_ins {α : Type} {d : Kd α} {e : Nat} {W W1 : World} {base N N2 : Nat} {ok okx okr okf : Nat → Prop} {v v1 : Value} {xs : List α} {rows : List (List Value)} {f : Nat → Nat} {i : Nat} {x : α} {vs : List Value}
  (hraw : (Kd.raw d.sz).R e W1 base okr v1 (rows.take i ++ [vs] ++ rows.drop i)) (hlen : rows.length = xs.length) (hi : i ≤ xs.length)
  (hM : ∀ (q : Nat) (x : α), xs[q]? = some x → d.M W base (fun k => (ok k ∧ some k ≠ v.ownBlock) ∧ f k = q) x (rows.getD q [])) (hx : d.M W base okx x vs)
  (hv : ∀ k, v.ownBlock = some k → ok k) (hv1 : v1.ownBlock = v.ownBlock ∨ ∃ b, v1.ownBlock = some b ∧ N2 ≤ b) (hN : ∀ k, ok k → k < N) (hxN : ∀ k, okx k → N ≤ k ∧ k < N2) (hNN : N ≤ N2) (hof : ∀ k, ok k ∨ okx k ∨ N2 ≤ k → okf k)
  (hmove : ∀ k, some k ≠ v.ownBlock → k < W.heap.size → W1.heap[k]? = W.heap[k]?) : Kd.S d e W1 base okf v1 (xs.take i ++ [x] ++ xs.drop i) := by
 have hl1 : (rows.take i ++ [vs] ++ rows.drop i).length = (xs.take i ++ [x] ++ xs.drop i).length := by simp only [List.length_append, List.length_take, List.length_drop, List.length_singleton, hlen]
 have hvx : ∀ k, okx k → some k ≠ v.ownBlock := fun k hk he => by have := hN k (hv k he.symm); have := (hxN k hk).1; omega
 have hvx1 : ∀ k, okx k → some k ≠ v1.ownBlock := fun k hk he => by
  rcases hv1 with h | ⟨b, h, hb⟩
  ·exact hvx k hk (he.trans h)
  ·rw [h] at he; injection he with he; have := (hxN k hk).2; omega
 have hvo1 : ∀ k, ok k → some k ≠ v.ownBlock → some k ≠ v1.ownBlock := fun k hk hne he => by
  rcases hv1 with h | ⟨b, h, hb⟩
  ·exact hne (he.trans h)
  ·rw [h] at he; injection he with he; have := hN k hk; omega
 refine sCloseV (fun k => if k < N then (if f k < i then f k else f k + 1) else i) hraw hl1 (fun k hk => ?_) (fun q y hy => ?_)
 ·rcases hv1 with h | ⟨b, h, hb⟩
  ·exact hof k (.inl (hv k (h ▸ hk)))
  ·rw [h] at hk; injection hk with hk; exact hof k (.inr (.inr (hk ▸ hb)))
 ·rw [ins_at xs x i q hi] at hy
  rw [List.getD_eq_getElem?_getD, ins_at rows vs i q (by omega)]
  by_cases h1 : q < i
  ·rw [if_pos h1] at hy ⊢
   rw [← List.getD_eq_getElem?_getD]
   exact d.M_mono (fun k hk => ⟨⟨hof k (.inl hk.1.1), hvo1 k hk.1.1 hk.1.2⟩, by rw [if_pos (hN k hk.1.1), hk.2, if_pos h1]⟩) (Kd.M_step (hM q y hy) (fun k hk hlt => hmove k hk.1.2 hlt))
  ·rw [if_neg h1] at hy ⊢
   by_cases h2 : q = i
   ·rw [if_pos h2] at hy ⊢
    injection hy with hy
    subst hy
    exact d.M_mono (fun k hk => ⟨⟨hof k (.inr (.inl hk)), hvx1 k hk⟩, by rw [if_neg (by have := (hxN k hk).1; omega), h2]⟩) (Kd.M_step hx (fun k hk hlt => hmove k (hvx k hk) hlt))
   ·rw [if_neg h2] at hy ⊢
    rw [← List.getD_eq_getElem?_getD]
    exact d.M_mono (fun k hk => ⟨⟨hof k (.inl hk.1.1), hvo1 k hk.1.1 hk.1.2⟩, by rw [if_pos (hN k hk.1.1), hk.2, if_neg (by omega)]; omega⟩) (Kd.M_step (hM (q - 1) y hy) (fun k hk hlt => hmove k hk.1.2 hlt))
def gtR (ino : Int) : List S51 → Nat → Int
 | [], _ => -1
 | x :: l, i => if ino < x.f0 then (i : Int) else gtR ino l (i + 1)
theorem setOf1.calls (ino a b c : Int) (A3 A4 A5 : Option Addr) (n3 c3 n4 c4 n5 c5 : Nat) (B : Nat) (W : World) (hB : B < W.heap.size) (hc : W.cell? ⟨B, 0, none⟩ = some (.int .i64 ino)) :
  Calls Tryz.prog 74 #[.agg #[.int .i64 a, .int .i64 b, .int .i64 c, .slice A3 n3 c3, .slice A4 n4 c4, .slice A5 n5 c5], .pointer (some ⟨B, 0, none⟩)] W fun e w' => e = .returned (.bool (decide (ino < a))) ∧ Below W.heap.size W w' := by
 have hne : B ≠ W.heap.size := by omega
 go_enter Tryz.func74, Tryz.ntmps74
 go_wp2
 all_goals (go_ret; exact ⟨by simp_all, (Below.refl _ W).alloc (Nat.le_refl _) _⟩)
theorem srd_at (l : List S51) (k : Nat) (h : k < l.length) : rd_T51 l (k : Int) = l[k] := by
 simp [rd_T51, List.getD_eq_getElem?_getD, List.getElem?_eq_getElem h]
theorem gtR_hit (ino : Int) (l : List S51) (k j : Nat) (h : k < l.length) (hit : ino < (rd_T51 l (k : Int)).f0) : gtR ino (l.drop k) j = (j : Int) := by
 rw [List.drop_eq_getElem_cons h, gtR, if_pos (by rw [← srd_at l k h]; exact hit)]
theorem gtR_miss (ino : Int) (l : List S51) (k j : Nat) (h : k < l.length) (hit : ¬ ino < (rd_T51 l (k : Int)).f0) : gtR ino (l.drop k) j = gtR ino (l.drop (k + 1)) (j + 1) := by
 rw [List.drop_eq_getElem_cons h, gtR, if_neg (by rw [← srd_at l k h]; exact hit)]
set_option maxHeartbeats 400000 in
set_option maxRecDepth 100000 in
theorem setOf2.calls (ino : Int) (A0 : Option Addr) (c0 : Nat) (l : List S51) (B : Nat) (w : World) (hr : k51.C w A0 l.length l) (hB : B < w.heap.size) (hc : w.cell? ⟨B, 0, none⟩ = some (.int .i64 ino)) (hl : l.length ≤ 9223372036854775807) :
  Calls Tryz.prog 69 #[.slice A0 l.length c0, .func (.func 74) #[] #[.pointer (some ⟨B, 0, none⟩)]] w fun e w' => e = .returned (.int .i64 (gtR ino l 0)) ∧ Below w.heap.size w w' := by
 go_enter Tryz.func69, Tryz.ntmps69
 go_wp2
 go_loopg [5, 8] l.length (fun gg _ s8 wr => ∃ kk : Nat, kk ≤ l.length ∧ l.length - kk ≤ gg ∧ s8 = .int .i64 kk ∧ Aside0 (Below w.heap.size w wr) ∧ Aside0 (gtR ino l 0 = gtR ino (l.drop kk) kk))
 case atStart => exact ⟨0, Nat.zero_le _, by omega, rfl, ⟨Below.refl _ w⟩, ⟨rfl⟩⟩
 case round =>
  obtain ⟨kk, hkk, hg, rfl, BW, A⟩ := hrel
  by_cases hlt : kk < l.length
  ·have hltz : (kk : Int) < (l.length : Int) := by omega
   obtain ⟨ad, A3, c3, A4, c4, A5, c5, e0, h0, h1, h2, h3, h4, h5, _⟩ := at_T51 (Kd.C_below hr BW.out) (kk : Int) (by omega) hltz
   cases e0
   rw [Int.toNat_natCast] at h0 h1 h2 h3 h4 h5
   have hBw : B < wr.heap.size := Nat.lt_of_lt_of_le hB BW.out.size
   have hcw : wr.cell? ⟨B, 0, none⟩ = some (.int .i64 ino) := (BW.out.cell (p := ⟨B, 0, none⟩) hB).trans hc
   by_cases hit : ino < (rd_T51 l (kk : Int)).f0
   ·have hq : decide (ino < (rd_T51 l (kk : Int)).f0) = true := by simpa using hit
    go_wp2_with (go_at_call 74; refine (setOf1.calls ino _ _ _ _ _ _ _ _ _ _ _ _ B wr hBw hcw).mono ?_; rintro e w' ⟨rfl, hb'⟩; rw [hq])
    go_ret
    exact ⟨by rw [A.out, gtR_hit ino l kk kk hlt (by omega)]; rfl, below_then BW.out BW.out.size hb'⟩
   ·have hq : decide (ino < (rd_T51 l (kk : Int)).f0) = false := by simpa using hit
    go_wp2_with (go_at_call 74; refine (setOf1.calls ino _ _ _ _ _ _ _ _ _ _ _ _ B wr hBw hcw).mono ?_; rintro e w' ⟨rfl, hb'⟩; rw [hq])
    go_roundg (l.length - (kk + 1))
    case measure => omega
    case rel => exact ⟨kk + 1, by omega, by omega, by go_num, ⟨below_then BW.out BW.out.size hb'⟩, ⟨by rw [A.out, gtR_miss ino l kk kk hlt (by omega)]⟩⟩
  ·have hltz : ¬ (kk : Int) < (l.length : Int) := by omega
   obtain rfl : kk = l.length := by omega
   go_wp2
   go_ret
   exact ⟨by rw [A.out, List.drop_length]; rfl, BW.out⟩
theorem gtR_spec (ino : Int) (l : List S51) : ∀ j : Nat, gtR ino l j = -1 ∨ ∃ i : Nat, gtR ino l j = ((j + i : Nat) : Int) ∧ i < l.length := by
 induction l with
 | nil => intro j; exact .inl rfl
 | cons x l ih =>
  intro j
  rw [gtR]
  by_cases c : ino < x.f0
  ·rw [if_pos c]; exact .inr ⟨0, by simp, by simp⟩
  ·rw [if_neg c]
   rcases ih (j + 1) with h1 | ⟨i, h1, h2⟩
   ·exact .inl h1
   ·exact .inr ⟨i + 1, by rw [h1]; congr 1; omega, by simpa using h2⟩
theorem placeR_spec (ino : Int) (l : List S51) : ∀ j : Nat, placeR ino l j = -1 ∨ ∃ i : Nat, placeR ino l j = ((j + i : Nat) : Int) ∧ i < l.length := by
 induction l with
 | nil => intro j; exact .inl rfl
 | cons x l ih =>
  intro j
  rw [placeR]
  by_cases c : x.f0 = ino
  ·rw [if_pos c]; exact .inr ⟨0, by simp, by simp⟩
  ·rw [if_neg c]
   rcases ih (j + 1) with h1 | ⟨i, h1, h2⟩
   ·exact .inl h1
   ·exact .inr ⟨i + 1, by rw [h1]; congr 1; omega, by simpa using h2⟩
def gtP (ino : Int) (l : List S51) : Nat := if gtR ino l 0 < 0 then l.length else (gtR ino l 0).toNat
def setP (x : S51) (l : List S51) : List S51 := if 0 ≤ placeR x.f0 l 0 then l.set (placeR x.f0 l 0).toNat x else l.take (gtP x.f0 l) ++ [x] ++ l.drop (gtP x.f0 l)
theorem bgrownV {W W1 : World} {g : Nat} {o : Obj} {v : Value} (h : Aside0 (W.heap[g]? = some o)) (hg : W.grownBy W1 v.ownBlock) (hn : some g ≠ v.ownBlock) : Aside0 (W1.heap[g]? = some o) := ⟨blk_grown h.out hg hn⟩
theorem raw_wholeS {w : World} {base sz : Nat} {ok : Nat → Prop} {c' seg : List Value} (hc : c'.length = sz) (hs : seg.length = sz) (h1 : ∀ v ∈ seg, v.oneCell' = true) : (Kd.raw sz).M w base ok seg (c'.take 0 ++ seg ++ c'.drop (0 + seg.length)) := by
 have e : c'.take 0 ++ seg ++ c'.drop (0 + seg.length) = seg := by rw [Nat.zero_add, hs, ← hc, List.drop_length]; simp
 exact ⟨e, by rw [e]; exact hs, by rw [e]; exact h1⟩
theorem bgrown {W W1 : World} {g g' : Nat} {o : Obj} (h : Aside0 (W.heap[g]? = some o)) (hg : W.grownBy W1 (some g')) (hn : ¬ (g = g')) : Aside0 (W1.heap[g]? = some o) := ⟨blk_grown h.out hg (by intro he; injection he with he; exact hn he)⟩
theorem put6 {W : World} {g : Nat} {t : TypeId} {a0 a1 a2 a3 a4 a5 : Value} (h : W.heap[g]? = some (.cells #[a0, a1, a2, a3, a4, a5] t (0, 0))) (v0 v1 v2 v3 v4 v5 : Value) :
  ((((((W.setCell ⟨g, 0, none⟩ v0).setCell ⟨g, 1, none⟩ v1).setCell ⟨g, 2, none⟩ v2).setCell ⟨g, 3, none⟩ v3).setCell ⟨g, 4, none⟩ v4).setCell ⟨g, 5, none⟩ v5).heap[g]? = some (.cells #[v0, v1, v2, v3, v4, v5] t (0, 0)) ∧
   (∀ k, k ≠ g → ((((((W.setCell ⟨g, 0, none⟩ v0).setCell ⟨g, 1, none⟩ v1).setCell ⟨g, 2, none⟩ v2).setCell ⟨g, 3, none⟩ v3).setCell ⟨g, 4, none⟩ v4).setCell ⟨g, 5, none⟩ v5).heap[k]? = W.heap[k]?) ∧
   ((((((W.setCell ⟨g, 0, none⟩ v0).setCell ⟨g, 1, none⟩ v1).setCell ⟨g, 2, none⟩ v2).setCell ⟨g, 3, none⟩ v3).setCell ⟨g, 4, none⟩ v4).setCell ⟨g, 5, none⟩ v5).heap.size = W.heap.size :=
 ⟨by
  refine blk_put (cs := #[v0, v1, v2, v3, v4, a5]) ?_ 5 _ rfl
  refine blk_put (cs := #[v0, v1, v2, v3, a4, a5]) ?_ 4 _ rfl
  refine blk_put (cs := #[v0, v1, v2, a3, a4, a5]) ?_ 3 _ rfl
  refine blk_put (cs := #[v0, v1, a2, a3, a4, a5]) ?_ 2 _ rfl
  refine blk_put (cs := #[v0, a1, a2, a3, a4, a5]) ?_ 1 _ rfl
  exact blk_put h 0 _ rfl,
 fun k hk => by rw [Below.heap_setCell _ _ _ _ hk, Below.heap_setCell _ _ _ _ hk, Below.heap_setCell _ _ _ _ hk, Below.heap_setCell _ _ _ _ hk, Below.heap_setCell _ _ _ _ hk, Below.heap_setCell _ _ _ _ hk], by simp [World.setCell]⟩
def impl_SetInode.f (k : Nat) (l0_0 : List S51) (a0_1 b0 b1 b2 : Int) (m3 : List Int) (m4 : List S65) (m5 : List S71) : Option (List S51 × Int) := (impl_copyTab.f k l0_0 a0_1).bind fun t => (impl_copyInode.f b0 b1 b2 m3 m4 m5).bind fun y => if t.1.length ≤ 1466015503700 then some (setP ⟨y.1, y.2.1, y.2.2.1, y.2.2.2.1, y.2.2.2.2.1, y.2.2.2.2.2⟩ t.1, t.2) else none
set_option maxHeartbeats 2000000 in
set_option maxRecDepth 100000 in
theorem impl_SetInode.calls (k : Nat) (A0_0 : Option Addr) (c0_0 : Nat) (l0_0 : List S51) (a0_1 b0 b1 b2 : Int) (A1_3 : Option Addr) (c1_3 : Nat) (m3 : List Int) (A1_4 : Option Addr) (c1_4 : Nat) (m4 : List S65) (A1_5 : Option Addr) (c1_5 : Nat) (m5 : List S71) (r1 : List S51) (r2 : Int) (w : World)
  (hr0_0 : Kd.C k51 w A0_0 l0_0.length l0_0) (hc0_0 : l0_0.length ≤ c0_0) (hr1_3 : Kd.C (Kd.int .u8) w A1_3 m3.length m3) (hc1_3 : m3.length ≤ c1_3) (hr1_4 : Kd.C k65 w A1_4 m4.length m4) (hc1_4 : m4.length ≤ c1_4) (hr1_5 : Kd.C k71 w A1_5 m5.length m5) (hc1_5 : m5.length ≤ c1_5) (h : impl_SetInode.f k l0_0 a0_1 b0 b1 b2 m3 m4 m5 = some (r1, r2)) :
  Calls Tryz.prog 50 #[.agg #[.slice A0_0 l0_0.length c0_0, .int .i64 a0_1], .agg #[.int .i64 b0, .int .i64 b1, .int .i64 b2, .slice A1_3 m3.length c1_3, .slice A1_4 m4.length c1_4, .slice A1_5 m5.length c1_5]] w fun e w' => ∃ v0_ : Value, e = .returned (.agg #[v0_, .int .i64 r2]) ∧ Kd.S k51 51 w' w.heap.size (fun _ => True) v0_ r1 ∧ Below w.heap.size w w' := by
 unfold impl_SetInode.f at h
 replace h := bA h
 obtain ⟨⟨t1, t2⟩, H1, h⟩ := h
 replace h := bA h
 obtain ⟨⟨y0, y1, y2, y3, y4, y5⟩, H2, h⟩ := h
 split at h
 case isFalse => cases h
 case isTrue hl =>
 simp only [Option.some.injEq, Prod.mk.injEq] at h
 obtain ⟨hR1, rfl⟩ := h
 have hl' : t1.length ≤ 1466015503700 := hl
 clear hl
 have HL := Aside0.mk hl'
 have HR1 := Aside0.mk hR1
 clear hl' hR1
 have HR0 := Aside0.mk hr0_0
 have HC0 := Aside0.mk hc0_0
 have HR3 := Aside0.mk hr1_3
 have HC3 := Aside0.mk hc1_3
 have HR4 := Aside0.mk hr1_4
 have HC4 := Aside0.mk hc1_4
 have HR5 := Aside0.mk hr1_5
 have HC5 := Aside0.mk hc1_5
 clear hr0_0 hc0_0 hr1_3 hc1_3 hr1_4 hc1_4 hr1_5 hc1_5
 have HB := Aside0.mk (Below.refl w.heap.size w)
 go_enter Tryz.func50, Tryz.ntmps50
 go_wp2_with fail
 refine (impl_copyTab.calls k _ _ l0_0 a0_1 t1 t2 _ (kC HR0) HC0.out H1.out).mono ?_
 rintro e w2 ⟨v0, rfl, hs, hb⟩
 obtain ⟨A, c, rfl⟩ := Kd.S_slice hs
 have KT := Aside0.mk (blk_below (blk_alloc (blk_alloc (blk_new _ _) _) _) hb)
 have KI := Aside0.mk (blk_below (blk_alloc (blk_new _ _) _) hb)
 have KR := Aside0.mk (blk_below (blk_new _ _) hb)
 simp only [World.size_alloc] at KI KR
 have S1 := siv' hs (w.heap.size + 3) w.heap.size (by simp) (by simp only [World.size_alloc]; omega)
 have n1 : w.heap.size + 3 ≤ w2.heap.size := by have := hb.size; simpa using this
 replace HB := Aside0.mk (below_step (below_alloc (below_alloc (below_alloc (Below.refl _ _) _) _) _) hb)
 clear hs hb
 have zt := z2 KT
 have zi := z6 KI
 have zr := z2 KR
 have KT3 := Aside0.mk (show ((w2.setCell ⟨w.heap.size, 0, none⟩ (.slice A t1.length c)).setCell ⟨w.heap.size, 1, none⟩ (.int .i64 t2)).heap[w.heap.size]? = some (.cells #[.slice A t1.length c, .int .i64 t2] 26 (0, 0)) by simpa using blk_set (blk_set KT.out 0 (.slice A t1.length c)) 1 (.int .i64 t2))
 have KI3 := Aside0.mk (show ((w2.setCell ⟨w.heap.size, 0, none⟩ (.slice A t1.length c)).setCell ⟨w.heap.size, 1, none⟩ (.int .i64 t2)).heap[w.heap.size + 1]? = some (.cells #[.int .i64 b0, .int .i64 b1, .int .i64 b2, .slice A1_3 m3.length c1_3, .slice A1_4 m4.length c1_4, .slice A1_5 m5.length c1_5] 51 (0, 0)) by rw [Below.heap_setCell _ _ _ _ (by simp), Below.heap_setCell _ _ _ _ (by simp)]; exact KI.out)
 have KR3 := Aside0.mk (show ((w2.setCell ⟨w.heap.size, 0, none⟩ (.slice A t1.length c)).setCell ⟨w.heap.size, 1, none⟩ (.int .i64 t2)).heap[w.heap.size + 1 + 1]? = some (.cells #[.slice none 0 0, .int .i64 0] 26 (0, 0)) by rw [Below.heap_setCell _ _ _ _ (by simp; omega), Below.heap_setCell _ _ _ _ (by simp; omega)]; exact KR.out)
 have HB3 := Aside0.mk ((HB.out.setCell (p := ⟨w.heap.size, 0, none⟩) (Nat.le_refl _) (.slice A t1.length c)).setCell (p := ⟨w.heap.size, 1, none⟩) (Nat.le_refl _) (.int .i64 t2))
 have S3 := Aside0.mk (Kd.S_far (p := ⟨w.heap.size, 1, none⟩) (Kd.S_far (p := ⟨w.heap.size, 0, none⟩) S1.out (fun k hk => by have := hk.1; dsimp only; omega) (.slice A t1.length c)) (fun k hk => by have := hk.1; dsimp only; omega) (.int .i64 t2))
 go_wp2_with fail
 have hsz3 : ((w2.setCell ⟨w.heap.size, 0, none⟩ (.slice A t1.length c)).setCell ⟨w.heap.size, 1, none⟩ (.int .i64 t2)).heap.size = w2.heap.size := by simp [World.setCell]
 generalize hW3 : ((w2.setCell ⟨w.heap.size, 0, none⟩ (.slice A t1.length c)).setCell ⟨w.heap.size, 1, none⟩ (.int .i64 t2)) = W3 at KT3 KI3 KR3 HB3 S3 hsz3 ⊢
 clear hW3 zt zi zr KT KI KR S1 HB
 refine (impl_copyInode.calls b0 b1 b2 _ _ m3 _ _ m4 _ _ m5 y0 y1 y2 y3 y4 y5 W3 (Kd.C_below HR3.out HB3.out) HC3.out (Kd.C_below HR4.out HB3.out) HC4.out (Kd.C_below HR5.out HB3.out) HC5.out H2.out).mono ?_
 rintro e w4 ⟨v3, v4, v5, rfl, g3, g4, g5, hb⟩
 have KT := Aside0.mk (blk_below KT3.out hb)
 have KI := Aside0.mk (blk_below KI3.out hb)
 have KR := Aside0.mk (blk_below KR3.out hb)
 have HB := Aside0.mk (below_step HB3.out hb)
 have S4 := Aside0.mk (Kd.S_below S3.out hb)
 have n4 : w2.heap.size ≤ w4.heap.size := by have := hb.size; omega
 have G3 := riv' g3 w2.heap.size w.heap.size (by omega) (by omega)
 have G4 := riv' g4 w2.heap.size w.heap.size (by omega) (by omega)
 have G5 := riv' g5 w2.heap.size w.heap.size (by omega) (by omega)
 clear hb KT3 KI3 KR3 HB3 S3 g3 g4 g5 hsz3
 obtain ⟨A3, c3, rfl⟩ := Kd.R_slice G3.out
 obtain ⟨A4, c4, rfl⟩ := Kd.R_slice G4.out
 obtain ⟨A5, c5, rfl⟩ := Kd.R_slice G5.out
 have zt := z2 KT
 have zi := z6 KI
 have d01 : ¬ (w.heap.size = w.heap.size + 1) := by omega
 have d10 : ¬ (w.heap.size + 1 = w.heap.size) := by omega
 go_wp2_with fail
 obtain ⟨p1, p2, p3⟩ := put6 KI.out (.int .i64 y0) (.int .i64 y1) (.int .i64 y2) (.slice A3 y3.length c3) (.slice A4 y4.length c4) (.slice A5 y5.length c5)
 have HB5 := Aside0.mk ((((((HB.out.setCell (p := ⟨w.heap.size + 1, 0, none⟩) (by dsimp only; omega) (.int .i64 y0)).setCell (p := ⟨w.heap.size + 1, 1, none⟩) (by dsimp only; omega) (.int .i64 y1)).setCell (p := ⟨w.heap.size + 1, 2, none⟩) (by dsimp only; omega) (.int .i64 y2)).setCell (p := ⟨w.heap.size + 1, 3, none⟩) (by dsimp only; omega) (.slice A3 y3.length c3)).setCell (p := ⟨w.heap.size + 1, 4, none⟩) (by dsimp only; omega) (.slice A4 y4.length c4)).setCell (p := ⟨w.heap.size + 1, 5, none⟩) (by dsimp only; omega) (.slice A5 y5.length c5))
 generalize hW5 : ((((((w4.setCell ⟨w.heap.size + 1, 0, none⟩ (.int .i64 y0)).setCell ⟨w.heap.size + 1, 1, none⟩ (.int .i64 y1)).setCell ⟨w.heap.size + 1, 2, none⟩ (.int .i64 y2)).setCell ⟨w.heap.size + 1, 3, none⟩ (.slice A3 y3.length c3)).setCell ⟨w.heap.size + 1, 4, none⟩ (.slice A4 y4.length c4)).setCell ⟨w.heap.size + 1, 5, none⟩ (.slice A5 y5.length c5)) = W5 at p1 p2 p3 HB5 ⊢
 have KT5 := Aside0.mk ((p2 w.heap.size (by omega)).trans KT.out)
 have KR5 := Aside0.mk ((p2 (w.heap.size + 1 + 1) (by omega)).trans KR.out)
 have KI5 := Aside0.mk p1
 have S5 := Aside0.mk (Kd.S_step S4.out (fun k hk _ => p2 k (by have := hk.1; omega)))
 replace G3 := Aside0.mk (Kd.R_step G3.out (fun k hk _ => p2 k (by have := hk.1; omega)))
 replace G4 := Aside0.mk (Kd.R_step G4.out (fun k hk _ => p2 k (by have := hk.1; omega)))
 replace G5 := Aside0.mk (Kd.R_step G5.out (fun k hk _ => p2 k (by have := hk.1; omega)))
 clear hW5 p1 p2 KT KI KR HB S4 zt zi
 have hplace : impl_placeOf.f k t1 t2 y0 = some (placeR y0 t1 0) := by unfold impl_placeOf.f; rw [if_pos (by have := HL.out; omega)]
 refine (impl_placeOf.calls k _ _ t1 t2 y0 _ W5 (Kd.S_reads' S5.out).2.2 (rl S5) hplace).mono ?_
 rintro e w6 ⟨rfl, hb⟩
 replace n4 : w2.heap.size ≤ w6.heap.size ∧ w4.heap.size ≤ w6.heap.size := by have := hb.size; omega
 have KT := Aside0.mk (blk_below KT5.out hb)
 have KI := Aside0.mk (blk_below KI5.out hb)
 have KR := Aside0.mk (blk_below KR5.out hb)
 have HB := Aside0.mk (below_step HB5.out hb)
 have S6 := Aside0.mk (Kd.S_below S5.out hb)
 replace G3 := Aside0.mk (Kd.R_below G3.out hb)
 replace G4 := Aside0.mk (Kd.R_below G4.out hb)
 replace G5 := Aside0.mk (Kd.R_below G5.out hb)
 clear hb KT5 KI5 KR5 HB5 S5 hplace p3
 have zt := z2 KT
 have zi := z6 KI
 have zr := z2 KR
 obtain ⟨rows, f, hrl, hraw, hPg, hM⟩ := sOpenV S6.out
 have HX := Aside0.mk (k51_mkM w6 w.heap.size (fun k => w2.heap.size ≤ k ∧ k < w4.heap.size) (⟨y0, y1, y2, y3, y4, y5⟩ : S51) G3.out G4.out G5.out)
 have HRAW := Aside0.mk hraw
 have HM := Aside0.mk hM
 have HP := Aside0.mk hPg
 have HRL := Aside0.mk hrl
 clear G3 G4 G5 hraw hM hPg hrl
 rcases placeR_spec y0 t1 0 with hp | ⟨i, hp, hit⟩
 case inr =>
  rw [Nat.zero_add] at hp
  rw [hp]
  obtain ⟨g, cap, ev, gb, _, _⟩ := Kd.S_form S6.out (by omega)
  injection ev with ea en ec
  subst ea
  clear en ec
  have hltz : (i : Int) < (t1.length : Int) := by omega
  have hi0 : (0 : Int) ≤ (i : Int) := by omega
  have hg3 := HP.out g rfl
  have dg0 : ¬ (w.heap.size = g) := by omega
  have dg1 : ¬ (w.heap.size + 1 = g) := by omega
  have dg2 : ¬ (w.heap.size + 1 + 1 = g) := by omega
  have HONE := Aside0.mk (k51.K_one (k51.K_of_M HX.out))
  obtain ⟨c', hcl', hcm', hcc', _⟩ := Kd.R_elem HRAW.out [] (i : Int) hi0 hltz
  have HCC := Aside0.mk hcc'
  have HCL := Aside0.mk hcl'
  clear hcc' hcm' hcl'
  go_wp2_with ((with_reducible refine gate_store (t := 51) (p := 21) rfl ?_); refine Kd.R_store (Kd.raw k51.sz) w.heap.size rfl rfl 51 (.tmp 21) (.tmp 20) rfl 51 (i : Int) 0 rows [.int .i64 y0, .int .i64 y1, .int .i64 y2, .slice A3 y3.length c3, .slice A4 y4.length c4, .slice A5 y5.length c5] (.agg [.int .i64 y0, .int .i64 y1, .int .i64 y2, .slice A3 y3.length c3, .slice A4 y4.length c4, .slice A5 y5.length c5].toArray) [.int .i64 y0, .int .i64 y1, .int .i64 y2, .slice A3 y3.length c3, .slice A4 y4.length c4, .slice A5 y5.length c5] c' _ (fun _ => False) rfl (by simp; rfl) rfl rfl (by kernel_rfl) HONE.out HRAW.out hi0 hltz HCL.out HCC.out (Nat.le_refl _) (raw_wholeS HCL.out rfl HONE.out) (fun _ hk => hk.elim) HB.out ?_; intro w7 hr7 hb7 hg7; have HR7 := Aside0.mk hr7; have HB7 := Aside0.mk hb7; have HG7 := Aside0.mk hg7; have KT7 := bgrown KT hg7 dg0; have KR7 := bgrown KR hg7 dg2; replace zt := z2 KT7; replace zr := z2 KR7; clear hr7 hb7 hg7)
  have hr7 := HR7.out
  rw [Int.toNat_natCast] at hr7
  have hs7 := s_set (okf := fun k => w.heap.size + 3 ≤ k) (N := w2.heap.size) hr7 HRL.out hit HM.out HX.out HP.out (fun k hk => hk.2) (fun k hk => hk.1) (fun k hk => by rcases hk with h | h; exact h.1; have := h.1; omega) (fun k hne hlt => HG7.out.block k hlt hne)
  have hres : setP (⟨y0, y1, y2, y3, y4, y5⟩ : S51) t1 = t1.set i ⟨y0, y1, y2, y3, y4, y5⟩ := by
   unfold setP
   dsimp only
   rw [hp, if_pos (by omega), Int.toNat_natCast]
  rw [HR1.out] at hres
  rw [← hres] at hs7
  have HS7 := Aside0.mk hs7
  clear hs7 hr7 hres
  try simp only [Exit.inBlock, Exit.then]
  refine bodyPost_ret (results_cell_row rfl _ _ (w.heap.size + 1 + 1) 26 #[.slice (some ⟨g, 0, none⟩) t1.length c, .int .i64 t2] (0, 0) _ rfl (by refine blk_put (cs := #[.slice (some ⟨g, 0, none⟩) t1.length c, .int .i64 0]) ?_ 1 _ rfl; refine blk_put (cs := #[.slice none 0 0, .int .i64 0]) ?_ 0 _ rfl; exact KR7.out) Tryz.underlying26 rfl (by kernel_rfl)) rfl ?_
  refine ⟨_, rfl, ?_, ?_⟩
  ·exact Kd.S_mono (Kd.S_far (Kd.S_far HS7.out (fun k hk => by dsimp only; omega) _) (fun k hk => by dsimp only; omega) _) (fun _ _ => trivial)
  ·exact (HB7.out.setCell (by dsimp only; omega) _).setCell (by dsimp only; omega) _
 case inl =>
  rw [hp]
  go_wp2_with fail
  refine (setOf2.calls y0 A c t1 (w.heap.size + 1) w6 (Kd.S_reads' S6.out).2.2 (blk_lt KI.out) zi.1.1 (by have := HL.out; omega)).mono ?_
  rintro e w7 ⟨rfl, hb⟩
  have N67 := Aside0.mk hb.size
  have HW67 := Aside0.mk hb
  replace KT := Aside0.mk (blk_below KT.out hb)
  replace KI := Aside0.mk (blk_below KI.out hb)
  replace KR := Aside0.mk (blk_below KR.out hb)
  replace HB := Aside0.mk (below_step HB.out hb)
  replace HRAW := Aside0.mk (Kd.R_below HRAW.out hb)
  have HONE := Aside0.mk (k51.K_one (k51.K_of_M HX.out))
  have HVB := Aside0.mk (show some w7.heap.size ≠ (Value.slice A t1.length c).ownBlock from fun he => by have := Kd.R_lt HRAW.out _ he.symm; omega)
  have HWB := Aside0.mk (show w.heap.size ≤ (w7.alloc (.cells #[.int .i64 y0, .int .i64 y1, .int .i64 y2, .slice A3 y3.length c3, .slice A4 y4.length c4, .slice A5 y5.length c5] 51)).heap.size by have := N67.out; rw [World.size_alloc]; omega)
  have HLB := Aside0.mk (show (t1.length + 1) * 96 ≤ 140737488355328 by have := HL.out; omega)
  have NT := Aside0.mk (show some w.heap.size ≠ (Value.slice A t1.length c).ownBlock from fun he => by have := (HP.out _ he.symm).1; omega)
  have NR := Aside0.mk (show some (w.heap.size + 1 + 1) ≠ (Value.slice A t1.length c).ownBlock from fun he => by have := (HP.out _ he.symm).1; omega)
  clear hb S6
  have KT0 := KT
  replace KT := Aside0.mk (blk_alloc KT.out (.cells #[.int .i64 y0, .int .i64 y1, .int .i64 y2, .slice A3 y3.length c3, .slice A4 y4.length c4, .slice A5 y5.length c5] 51))
  replace KR := Aside0.mk (blk_alloc KR.out (.cells #[.int .i64 y0, .int .i64 y1, .int .i64 y2, .slice A3 y3.length c3, .slice A4 y4.length c4, .slice A5 y5.length c5] 51))
  have zt' := z2 KT
  have zi := z6 KI
  have zt := z2 KT0
  rcases gtR_spec y0 t1 0 with hgt | ⟨j, hgt, hjt⟩
  case inl =>
   rw [hgt]
   have HJ := Aside0.mk (Nat.le_refl t1.length)
   go_wp2_with (go_at_call 75; refine (insInode.calls A t1.length c t1.length w7.heap.size w.heap.size (fun k => (Value.slice A t1.length c).ownBlock = some k) rows [.int .i64 y0, .int .i64 y1, .int .i64 y2, .slice A3 y3.length c3, .slice A4 y4.length c4, .slice A5 y5.length c5] w _ HJ.out HRL.out (Kd.R_below HRAW.out (below_alloc (Below.refl _ _) _)) (blk_new w7 _) HVB.out rfl HONE.out (below_alloc HB.out _) HWB.out HLB.out).mono ?_; rintro e w8 ⟨v', rfl, hr8, hb8, hg8, hat8⟩; have HR8 := Aside0.mk hr8; have HB8 := Aside0.mk hb8; have HG8 := Aside0.mk hg8; have HA8 := Aside0.mk hat8; have KT8 := bgrownV KT hg8 NT.out; have KR8 := bgrownV KR hg8 NR.out; replace zt := z2 KT8; replace zr := z2 KR8; obtain ⟨A', n', c', rfl⟩ : ∃ A' n' c', v' = Value.slice A' n' c' := (by obtain ⟨A', c', hs⟩ := Kd.R_slice hr8; exact ⟨_, _, _, hs⟩); clear hr8 hb8 hg8 hat8)
   have hs8 := s_ins (okf := fun k => w.heap.size + 3 ≤ k) (N := w2.heap.size) (N2 := w6.heap.size) HR8.out HRL.out HJ.out HM.out HX.out HP.out (by rcases HA8.out with h | ⟨b, h, hb⟩; exact .inl h; exact .inr ⟨b, h, by have := N67.out; rw [World.size_alloc] at hb; omega⟩) (fun k hk => hk.2) (fun k hk => ⟨hk.1, by have := hk.2; omega⟩) (by omega) (fun k hk => by rcases hk with h | h | h; exact h.1; have := h.1; omega; omega) (fun k hne hlt => by rw [HG8.out.block k (by have := N67.out; rw [World.size_alloc]; omega) hne, Below.heap_alloc _ _ _ (by have := N67.out; omega)]; exact HW67.out.block k hlt)
   have hres : setP (⟨y0, y1, y2, y3, y4, y5⟩ : S51) t1 = t1.take t1.length ++ [⟨y0, y1, y2, y3, y4, y5⟩] ++ t1.drop t1.length := by
    unfold setP gtP
    dsimp only
    rw [hp, if_neg (by omega)]
    rw [if_pos (by rw [hgt]; omega)]
   rw [HR1.out] at hres
   rw [← hres] at hs8
   have HS8 := Aside0.mk hs8
   clear hs8 hres
   try simp only [Exit.inBlock, Exit.then]
   refine bodyPost_ret (results_cell_row rfl _ _ (w.heap.size + 1 + 1) 26 #[.slice A' n' c', .int .i64 t2] (0, 0) _ rfl (by refine blk_put (cs := #[.slice A' n' c', .int .i64 0]) ?_ 1 _ rfl; refine blk_put (cs := #[.slice none 0 0, .int .i64 0]) ?_ 0 _ rfl; rw [Below.heap_setCell _ _ _ _ (by simp; omega)]; exact KR8.out) Tryz.underlying26 rfl (by kernel_rfl)) rfl ?_
   refine ⟨_, rfl, ?_, ?_⟩
   ·exact Kd.S_mono (Kd.S_far (Kd.S_far (Kd.S_far HS8.out (fun k hk => by dsimp only; omega) _) (fun k hk => by dsimp only; omega) _) (fun k hk => by dsimp only; omega) _) (fun _ _ => trivial)
   ·exact ((HB8.out.setCell (by dsimp only; omega) _).setCell (by dsimp only; omega) _).setCell (by dsimp only; omega) _
  case inr =>
   rw [Nat.zero_add] at hgt
   rw [hgt]
   have HJ := Aside0.mk (Nat.le_of_lt hjt)
   go_wp2_with (go_at_call 75; refine (insInode.calls A t1.length c j w7.heap.size w.heap.size (fun k => (Value.slice A t1.length c).ownBlock = some k) rows [.int .i64 y0, .int .i64 y1, .int .i64 y2, .slice A3 y3.length c3, .slice A4 y4.length c4, .slice A5 y5.length c5] w _ HJ.out HRL.out (Kd.R_below HRAW.out (below_alloc (Below.refl _ _) _)) (blk_new w7 _) HVB.out rfl HONE.out (below_alloc HB.out _) HWB.out HLB.out).mono ?_; rintro e w8 ⟨v', rfl, hr8, hb8, hg8, hat8⟩; have HR8 := Aside0.mk hr8; have HB8 := Aside0.mk hb8; have HG8 := Aside0.mk hg8; have HA8 := Aside0.mk hat8; have KT8 := bgrownV KT hg8 NT.out; have KR8 := bgrownV KR hg8 NR.out; replace zt := z2 KT8; replace zr := z2 KR8; obtain ⟨A', n', c', rfl⟩ : ∃ A' n' c', v' = Value.slice A' n' c' := (by obtain ⟨A', c', hs⟩ := Kd.R_slice hr8; exact ⟨_, _, _, hs⟩); clear hr8 hb8 hg8 hat8)
   have hs8 := s_ins (okf := fun k => w.heap.size + 3 ≤ k) (N := w2.heap.size) (N2 := w6.heap.size) HR8.out HRL.out HJ.out HM.out HX.out HP.out (by rcases HA8.out with h | ⟨b, h, hb⟩; exact .inl h; exact .inr ⟨b, h, by have := N67.out; rw [World.size_alloc] at hb; omega⟩) (fun k hk => hk.2) (fun k hk => ⟨hk.1, by have := hk.2; omega⟩) (by omega) (fun k hk => by rcases hk with h | h | h; exact h.1; have := h.1; omega; omega) (fun k hne hlt => by rw [HG8.out.block k (by have := N67.out; rw [World.size_alloc]; omega) hne, Below.heap_alloc _ _ _ (by have := N67.out; omega)]; exact HW67.out.block k hlt)
   have hres : setP (⟨y0, y1, y2, y3, y4, y5⟩ : S51) t1 = t1.take j ++ [⟨y0, y1, y2, y3, y4, y5⟩] ++ t1.drop j := by
    unfold setP gtP
    dsimp only
    rw [hp, if_neg (by omega)]
    rw [if_neg (by rw [hgt]; omega), hgt, Int.toNat_natCast]
   rw [HR1.out] at hres
   rw [← hres] at hs8
   have HS8 := Aside0.mk hs8
   clear hs8 hres
   try simp only [Exit.inBlock, Exit.then]
   refine bodyPost_ret (results_cell_row rfl _ _ (w.heap.size + 1 + 1) 26 #[.slice A' n' c', .int .i64 t2] (0, 0) _ rfl (by refine blk_put (cs := #[.slice A' n' c', .int .i64 0]) ?_ 1 _ rfl; refine blk_put (cs := #[.slice none 0 0, .int .i64 0]) ?_ 0 _ rfl; rw [Below.heap_setCell _ _ _ _ (by simp; omega)]; exact KR8.out) Tryz.underlying26 rfl (by kernel_rfl)) rfl ?_
   refine ⟨_, rfl, ?_, ?_⟩
   ·exact Kd.S_mono (Kd.S_far (Kd.S_far (Kd.S_far HS8.out (fun k hk => by dsimp only; omega) _) (fun k hk => by dsimp only; omega) _) (fun k hk => by dsimp only; omega) _) (fun _ _ => trivial)
   ·exact ((HB8.out.setCell (by dsimp only; omega) _).setCell (by dsimp only; omega) _).setCell (by dsimp only; omega) _
end Go.Proofs.YtkcfmbggdkkfeaaGreatDoor.P
