-- By this session's own program (wip/myprint.py) out of the translation; Lean checks it.
import Derived.Test.YtkcfmbggdkkfeaaGreatDoorPx0
import Derived.Test.YtkcfmbggdkkfeaaGreatDoorPx1
import Derived.Test.YtkcfmbggdkkfeaaGreatDoorPx3
namespace Go.Proofs.YtkcfmbggdkkfeaaGreatDoor.P
open Go.RowKit Go.Proofs.YtkcfmbggdkkfeaaGreatDoorW.PrintWords Go.Proofs.YtkcfmbggdkkfeaaGreatDoorW.PrintLast Go.Proofs.YtkcfmbggdkkfeaaGreatDoorW.PrintMore
attribute [local go_sem] max2_int min2_int max_two min_two max_three min_three max_four min_four   -- for this text's walks alone
set_option linter.unusedVariables false
set_option linter.unusedSimpArgs false

/-! ### slices_Insert_Attr: function 56 -/
/-- copy of elements of several cells. -/
theorem run_copyZAttr {P : Program} (w : World) (dT sT ty elem : TypeId) (b o dLen dCap : Nat) (a : Addr) (sLen sCap n : Nat) (cs : List Value)
  (hu : P.underlying dT = some (.slice elem)) (hs : (P.info? elem).map (·.size) = some 2) (hm : Nat.min sLen dLen = n) (hn : cs.length = n * 2)
  (hsrc : ∀ j v, cs[j]? = some v → w.cell? (a.add j) = some v) (hc : ∀ j, j < cs.length → (w.cell? ⟨b, o + j, none⟩).isSome = true) (hf : ∀ j, j < cs.length → w.frozen? ⟨b, o + j, none⟩ = false) (h1 : ∀ v ∈ cs, v.oneCell' = true) :
  (Builtin.copy_ #[dT, sT] ty #[.slice (some ⟨b, o, none⟩) dLen dCap, .slice (some a) sLen sCap]).run P w = .ok (goInt n) (w.setCells b o cs) := by
 have hl := run_loadCells_list (P := P) w a cs hsrc
 have hst := run_storeCells_cells (P := P) b o cs 0 w (by simpa using hc) (by simpa using hf) h1
 cases hq : P.info? elem with
 | none => simp [hq] at hs
 | some i =>
  have hi : i.size = 2 := by simpa [hq] using hs
  simp [Builtin.copy_, run_underlying hu, Builtin.lenOf, Builtin.firstCells, sizeOf, typeInfo, hq, hi, hm, ← hn, hl, hst]
theorem wpList_copyZAttr {P : Program} (w : World) {ops : Array Oper} {rest : List Oper} {o : Oper} {a : Act} {Q : Exit → Act → World → Prop} (hgd : o.guard = none) (d s : Operand) (t t' : TypeId)
  (ho : o.op = .call { callee := .builtin .copy, args := #[d, s], argTypes := #[t, t'] }) (v u : Value) (hd : a.eval d = v) (hs : a.eval s = u) {v' : Value} {w' : World}
  (hr : (Builtin.copy_ #[t, t'] o.type #[v, u]).run P w = .ok v' w') (h : wpList P ops Q rest (a.put o.dst v') w') : wpList P ops Q (o :: rest) a w :=
 wpList_plain hgd fun K hK => by
  unfold Oper.wp execOp
  simp only [ho, resolve, invoke, builtin, Sem.run_bind, Sem.run_pure, Result.andThen_ok, List.map_toArray, List.map_cons, List.map_nil, hd, hs, hr]
  exact hK _ _ h
theorem step_copyZAttr {P : Program} {ops : Array Oper} {o : Oper} {a : Act} {w : World} {K : Act → World → Prop} {Q : Exit → Act → World → Prop} {E : Prop}
  (hg : o.guard = none) (d x : Operand) (dT sT : TypeId) (hop : o.op = Op.call { callee := Callee.builtin Builtin.copy, args := #[d, x], argTypes := #[dT, sT] })
  (v u : Value) (hd : a.eval d = v) (hx : a.eval x = u) {v' : Value} {w' : World} (hr : (Builtin.copy_ #[dT, sT] o.type #[v, u]).run P w = .ok v' w') (hK : K (a.put o.dst v') w') :
  if Region.wanted o (yielded ops a.tmps) = true then Oper.wp P o a w K Q else E := by
 have hw : Region.wanted o (yielded ops a.tmps) = true := by simp [Region.wanted, hg]
 rw [if_pos hw]
 unfold Oper.wp
 simp [execOp, hop, resolve, invoke, builtin, hd, hx, hr, Result.andThen]
 exact hK
set_option maxHeartbeats 4000000 in
set_option maxRecDepth 100000 in
theorem insAttr_shift.calls (g n c i vb : Nat) (cur : Array Value) (inner vs : List Value) (w : World) (hi : i < n) (hroom : n + 1 ≤ c) (hc63 : c ≤ 9223372036854775807) (hvb : vb ≠ g)
  (hb : w.heap[g]? = some (.cells cur 71 (0, 0))) (hcs : cur.size = c * 2) (hin : cur.toList.take (n * 2) = inner) (hv : w.heap[vb]? = some (.cells vs.toArray 71 (0, 0))) (hvl : vs.length = 2)
  (h1c : ∀ u ∈ inner, u.oneCell' = true) (h1v : ∀ u ∈ vs, u.oneCell' = true) :
  Calls Tryz.prog 56 #[.slice (some ⟨g, 0, none⟩) n c, .int .i64 i, .slice (some ⟨vb, 0, none⟩) 1 1] w fun e w' =>
   e = .returned (.slice (some ⟨g, 0, none⟩) (n + 1) c) ∧ w' = (w.drew.setCells g ((i + 1) * 2) (inner.drop (i * 2))).setCells g (i * 2) vs := by
 have hu := Tryz.underlying49
 have mixed : Tryz.prog.follows .mixedOrders = true := by kernel_rfl
 have hz1 : ¬ ((1 : Int) = 0) := by omega
 have hz2 : ¬ ((i : Int) = (n : Int)) := by omega
 have hsz : (Tryz.prog.info? 71).map (·.size) = some 2 := by kernel_rfl
 have hil : inner.length = n * 2 := by rw [← hin, List.length_take, Array.length_toList]; omega
 have hdl : (inner.drop (i * 2)).length = (n - i) * 2 := by rw [List.length_drop, hil]; omega
 have hcur : ∀ j, w.cell? ⟨g, j, none⟩ = cur[j]? := fun j => blk_cell hb j
 have hcell : ∀ j u, inner[j]? = some u → w.cell? ⟨g, j, none⟩ = some u := fun j u hj => by
  rw [hcur, ← hj, ← hin, List.getElem?_take]
  have : j < inner.length := (List.getElem?_eq_some_iff.1 hj).1
  rw [if_pos (by omega), Array.getElem?_toList]
 have hsp : ∀ j, j < (n + 1) * 2 → (w.cell? ⟨g, j, none⟩).isSome = true := fun j hj => by rw [hcur, Array.getElem?_eq_getElem (by omega)]; rfl
 have hfz : ∀ j, w.frozen? ⟨g, j, none⟩ = false := fun j => blk_frozen hb j
 have hvc : ∀ j u, vs[j]? = some u → w.cell? ⟨vb, j, none⟩ = some u := fun j u hj => by rw [blk_cell hv j, List.getElem?_toArray, hj]
 have hov : ∀ lb cb, (callFunc 76 #[.slice (some ⟨vb, 0, none⟩) 1 1, .slice (some ⟨g, (i + 1) * 2, none⟩) lb cb]).run Tryz.prog w = .ok (.value (.bool false)) w := fun lb cb => by
  rw [run_callFunc_extern Tryz.func76 (by kernel_rfl) (by kernel_rfl) (by kernel_rfl) (e := Extern.SlicesOverlaps.overlaps #[49, 49] #[4]) (by kernel_rfl),
   Lib.run_overlaps_apart w 49 4 71 Tryz.underlying49 2 Tryz.sizeOf71 ⟨vb, 0, none⟩ ⟨g, (i + 1) * 2, none⟩ 1 1 lb cb hvb 71 71 vs.length cur.size (by simp [World.shape?, hv]) (by simp [World.shape?, hb]) (by omega) (blk_frozen hv 0) (blk_frozen hv _)]
  rfl
 have hw1 : IntKind.i64.wrap ((i : Int) + (1 : Int)) = (i : Int) + (1 : Int) := by rw [IntKind.wrap_i64]; omega
 have hw2 : IntKind.i64.wrap ((n : Int) + (1 : Int)) = (n : Int) + (1 : Int) := by rw [IntKind.wrap_i64]; omega
 have hb1 : (0 : Int) ≤ (i : Int) + (1 : Int) := by omega
 have hin' : i ≤ n := by omega
 have htn : ((i : Int) + (1 : Int)).toNat = i + 1 := by omega
 have htn2 : ((n : Int) + (1 : Int)).toNat = n + 1 := by omega
 have hb2 : ¬ (c = i + 1) := by omega
 have hb3 : (i : Int) ≤ (n : Int) + (1 : Int) := by omega
 have hb4 : ¬ (c = i) := by omega
 have hcp1 : ∀ ty dl dc sl sc, dl = n - i → sl = n + 1 - i → (Builtin.copy_ #[49, 49] ty #[.slice (some ⟨g, (i + 1) * 2, none⟩) dl dc, .slice (some ⟨g, i * 2, none⟩) sl sc]).run Tryz.prog w.drew = .ok (goInt ((n - i : Nat) : Int)) (w.drew.setCells g ((i + 1) * 2) (inner.drop (i * 2))) := fun ty dl dc sl sc hdl_ hsl_ =>
  run_copyZAttr w.drew _ _ ty 71 g ((i + 1) * 2) dl dc ⟨g, i * 2, none⟩ sl sc (n - i) (inner.drop (i * 2)) Tryz.underlying49 hsz (by simp only [Nat.min_def]; split <;> omega) hdl
   (fun j v hj => by rw [Addr.add_lit]; exact hcell (i * 2 + j) v (by rwa [List.getElem?_drop] at hj))
   (fun j hj => hsp _ (by omega)) (fun j hj => hfz _) (fun v hv => h1c v (List.mem_of_mem_drop hv))
 obtain ⟨W1, hW1⟩ : ∃ W1, W1 = w.drew.setCells g ((i + 1) * 2) (inner.drop (i * 2)) := ⟨_, rfl⟩
 obtain ⟨cur1, hh1, hs1, _⟩ := setCells_row (inner.drop (i * 2)) ((i + 1) * 2) w.drew cur hb (by omega)
 have hcp2 : ∀ (W : World), W.heap = W1.heap → ∀ ty dc, (Builtin.copy_ #[49, 49] ty #[.slice (some ⟨g, i * 2, none⟩) (n + 1 - i) dc, .slice (some ⟨vb, 0, none⟩) 1 1]).run Tryz.prog W = .ok (goInt 1) (W.setCells g (i * 2) vs) := fun W hWh ty dc =>
  run_copyZAttr W _ _ ty 71 g (i * 2) (n + 1 - i) dc ⟨vb, 0, none⟩ 1 1 1 vs Tryz.underlying49 hsz (by simp only [Nat.min_def]; split <;> omega) (by omega)
   (fun j v hj => by
    rw [Addr.add_lit, Nat.zero_add]
    rw [show W.cell? ⟨vb, j, none⟩ = w.cell? ⟨vb, j, none⟩ from by rw [blk_cell (w := W) (g := vb) (cs := vs.toArray) (t := 71) (by rw [hWh, hW1, setCells_far _ _ _ hvb]; exact hv) j, blk_cell hv j]]
    exact hvc j v hj)
   (fun j hj => by rw [blk_cell (w := W) (g := g) (cs := cur1) (t := 71) (by rw [hWh, hW1]; exact hh1), Array.getElem?_eq_getElem (by omega)]; rfl) (fun j hj => blk_frozen (w := W) (g := g) (cs := cur1) (t := 71) (by rw [hWh, hW1]; exact hh1) _) h1v
 rw [← hW1] at hcp1
 go_enter Tryz.func56, Tryz.ntmps56
 go_wp2_with (simp only [hov])
 go_region_law_o (refine step_copyZAttr rfl _ _ 49 49 rfl (.slice (some ⟨g, (i + 1) * 2, none⟩) (n + 1 - (i + 1)) (c - (i + 1))) (.slice (some ⟨g, i * 2, none⟩) (n + 1 - i) (c - i)) (by simp [Act.eval, Act.put]) (by simp [Act.eval, Act.put]) (hcp1 _ _ _ _ _ (by omega) (by omega)) ?_)
 go_wp2_with (at_builtin; refine wpList_copyZAttr _ rfl _ _ 49 49 rfl _ _ rfl rfl (hcp2 _ rfl _ _) ?_)
 go_ret
 first | exact ⟨rfl, rfl⟩ | exact ⟨rfl, by rw [hW1]⟩
theorem infoAttr : (Tryz.prog.info? 71).map (fun i => (i.zero, i.size, i.bytes)) = some (some (Value.agg #[.string ⟨#[]⟩, .string ⟨#[]⟩]), 2, 32) := by kernel_rfl
theorem oneAttr (w : World) (vb : Nat) (vs : List Value) (hv : w.heap[vb]? = some (.cells vs.toArray 71 (0, 0))) (hvl : vs.length = 2) (h1v : ∀ u ∈ vs, u.oneCell' = true) : ReadsRow ((Kd.raw 2).K w) 2 w (some ⟨vb, 0, none⟩) 1 [vs] := by
 refine ⟨rfl, by decide, fun _ => ⟨⟨vb, 0, none⟩, rfl, fun j p hj => ?_⟩⟩
 cases j with
 | zero =>
  obtain rfl : vs = p := by simpa using hj
  refine ⟨vs, hvl, ⟨rfl, hvl, h1v⟩, fun i u hu => ?_⟩
  rw [Nat.zero_mul, Nat.zero_add, Addr.add_lit, Nat.zero_add, blk_cell hv i, List.getElem?_toArray, hu]
 | succ j => simp at hj
set_option maxHeartbeats 4000000 in
set_option maxRecDepth 100000 in
theorem insAttr_end.calls (A : Option Addr) (n c vb base : Nat) (rows : List (List Value)) (vs : List Value) (w0 w : World) (hn : rows.length = n)
  (hr : (Kd.raw 2).R 71 w base (fun k => some k = (Value.slice A n c).ownBlock ∨ w.heap.size ≤ k) (.slice A n c) rows) (hv : w.heap[vb]? = some (.cells vs.toArray 71 (0, 0))) (hvl : vs.length = 2) (h1v : ∀ u ∈ vs, u.oneCell' = true)
  (hB : Below base w0 w) (hbase : base ≤ w.heap.size) (hbig : (n + 1) * 32 ≤ 140737488355328) :
  Calls Tryz.prog 56 #[.slice A n c, .int .i64 n, .slice (some ⟨vb, 0, none⟩) 1 1] w fun e w' => ∃ v', e = .returned v' ∧ (Kd.raw 2).R 71 w' base (fun k => some k = (Value.slice A n c).ownBlock ∨ w.heap.size ≤ k) v' (rows ++ [vs]) ∧
   Below base w0 w' ∧ w.grownBy w' (Value.slice A n c).ownBlock ∧ (v'.ownBlock = (Value.slice A n c).ownBlock ∨ ∃ b, v'.ownBlock = some b ∧ w.heap.size ≤ b) := by
 have hu := Tryz.underlying49
 have hz1 : ¬ ((1 : Int) = 0) := by omega
 have ho := oneAttr w vb vs hv hvl h1v
 have hr' := hr
 obtain ⟨hok, inner, hown, hrep⟩ := hr'
 go_enter Tryz.func56, Tryz.ntmps56
 rcases A with _ | ad
 ·obtain ⟨rfl, rfl⟩ : n = 0 ∧ c = 0 := by
   rcases hown.2 with ⟨h1, h2⟩ | ⟨g', cap', cur, h1, _⟩
   ·injection h1 with _ a b; exact ⟨a, b⟩
   ·cases h1
  go_wp2_with (at_builtin; refine Kd.R_append_rows (Kd.raw 2) (Rr := (Kd.raw 2).K w) (w0 := w0) base rfl _ _ 49 71 (Value.agg #[.string ⟨#[]⟩, .string ⟨#[]⟩]) 32 rfl hu infoAttr rfl (by decide) (by decide) _ rows [vs] (some ⟨vb, 0, none⟩) 1 1 _ (fun _ => False) rfl rfl hr ho (fun x cs h => h) (fun _ h => h.elim) (fun k hk => .inr hk) hB hbase (by omega) ?_; intro v1 w1 h1 h2 h3 h4)
  go_ret
  exact ⟨_, rfl, h1, h2, h3, h4⟩
 ·obtain ⟨g, rfl⟩ := Kd.R_head hr
  have hnc : n ≤ c := (Kd.R_reads' hr).2.1
  go_wp2_with (at_builtin; refine Kd.R_append_rows (Kd.raw 2) (Rr := (Kd.raw 2).K w) (w0 := w0) base rfl _ _ 49 71 (Value.agg #[.string ⟨#[]⟩, .string ⟨#[]⟩]) 32 rfl hu infoAttr rfl (by decide) (by decide) _ rows [vs] (some ⟨vb, 0, none⟩) 1 1 _ (fun _ => False) rfl rfl hr ho (fun x cs h => h) (fun _ h => h.elim) (fun k hk => .inr hk) hB hbase (by omega) ?_; intro v1 w1 h1 h2 h3 h4)
  all_goals (go_ret; exact ⟨_, rfl, h1, h2, h3, h4⟩)
set_option maxHeartbeats 4000000 in
set_option maxRecDepth 100000 in
theorem insAttr_grow.calls (g n c i vb : Nat) (cur : Array Value) (inner vs : List Value) (w : World) (hi : i < n) (hnc : n ≤ c) (hroom : c < n + 1) (hbig : (n + 1) * 32 ≤ 140737488355328)
  (hb : w.heap[g]? = some (.cells cur 71 (0, 0))) (hcs : cur.size = c * 2) (hin : cur.toList.take (n * 2) = inner) (hv : w.heap[vb]? = some (.cells vs.toArray 71 (0, 0))) (hvl : vs.length = 2)
  (h1c : ∀ u ∈ inner, u.oneCell' = true) (h1v : ∀ u ∈ vs, u.oneCell' = true) :
  Calls Tryz.prog 56 #[.slice (some ⟨g, 0, none⟩) n c, .int .i64 i, .slice (some ⟨vb, 0, none⟩) 1 1] w fun e w' => ∃ (G : Nat) (ROW : Array Value), n + 1 ≤ G ∧ G ≤ 9223372036854775807 ∧ ROW.size = G * 2 ∧ ROW.toList.take (i * 2) = inner.take (i * 2) ∧
   e = .returned (.slice (some ⟨w.heap.size, 0, none⟩) (n + 1) G) ∧ w' = (((w.alloc (.cells ROW 71)).drew.setCells w.heap.size (i * 2) vs).drew).setCells w.heap.size ((i + 1) * 2) (inner.drop (i * 2)) := by
 have hu := Tryz.underlying49
 have mixed : Tryz.prog.follows .mixedOrders = true := by kernel_rfl
 obtain ⟨i0, hi0, hz0, hzs, hzb⟩ := info_parts infoAttr
 have hsz : (Tryz.prog.info? 71).map (·.size) = some 2 := by rw [hi0]; simp [hzs]
 have hz1 : ¬ ((1 : Int) = 0) := by omega
 have hz2 : ¬ ((i : Int) = (n : Int)) := by omega
 have hz3 : (c : Int) < (n : Int) + (1 : Int) := by omega
 have hil : inner.length = n * 2 := by rw [← hin, List.length_take, Array.length_toList]; omega
 have hdl : (inner.drop (i * 2)).length = (n - i) * 2 := by rw [List.length_drop, hil]; omega
 have hgw : g < w.heap.size := blk_lt hb
 have hvw : vb < w.heap.size := blk_lt hv
 have hcell : ∀ j u, inner[j]? = some u → w.cell? ⟨g, j, none⟩ = some u := fun j u hj => by
  rw [blk_cell hb j, ← hj, ← hin, List.getElem?_take]
  have : j < inner.length := (List.getElem?_eq_some_iff.1 hj).1
  rw [if_pos (by omega), Array.getElem?_toList]
 have hvc : ∀ j u, vs[j]? = some u → w.cell? ⟨vb, j, none⟩ = some u := fun j u hj => by rw [blk_cell hv j, List.getElem?_toArray, hj]
 have hkk : (n : Int) + (1 : Int) - (i : Int) = ((n + 1 - i : Nat) : Int) := by omega
 have hik : i + (n + 1 - i) = n + 1 := by omega
 have hold : (Builtin.firstCells i0.size i (.slice (some ⟨g, 0, none⟩) i c)).run Tryz.prog w.drew = .ok (inner.take (i * 2)).toArray w.drew := by
  rw [hzs]
  exact run_firstCells_some w.drew 2 i ⟨g, 0, none⟩ i c (inner.take (i * 2)) (by rw [List.length_take]; omega) (fun j v hj => by
   rw [Addr.add_lit, Nat.zero_add]
   rw [List.getElem?_take] at hj
   split at hj
   ·exact hcell j v hj
   ·cases hj)
 have hrz : ∀ ty, (Builtin.append_ #[49, 3] ty #[.slice (some ⟨g, 0, none⟩) i c, .int .i64 ((n : Int) + (1 : Int) - (i : Int))]).run Tryz.prog w =
   .ok (.slice (some ⟨w.heap.size, 0, none⟩) (n + 1) (grownCap w (n + 1) c 71)) (w.drew.alloc (.cells ((inner.take (i * 2)).toArray ++ Builtin.zeroCells (Value.agg #[.string ⟨#[]⟩, .string ⟨#[]⟩]).cells (n + 1 - i) ++ Builtin.zeroCells (Value.agg #[.string ⟨#[]⟩, .string ⟨#[]⟩]).cells (grownCap w (n + 1) c 71 - (n + 1))) 71)) := fun ty => by
  have h := Lib.run_append_grow_zeros w 49 3 ty 71 i0 _ .i64 .i64 hu Tryz.underlying3 hi0 hz0 (some ⟨g, 0, none⟩) i c (inner.take (i * 2)) hold (n + 1 - i) (by omega) (by omega) (by omega) (by omega) (by rw [hzb]; omega) (by rw [hzb, hik]; exact growslice_fits hroom hbig)
  rw [hik] at h
  rw [hkk]
  exact h
 obtain ⟨G, hG⟩ : ∃ G, G = grownCap w (n + 1) c 71 := ⟨_, rfl⟩
 have hGn : n + 1 ≤ G := by rw [hG]; exact grownCap_ge w _ _ _
 have hG63 : G ≤ 9223372036854775807 := by
  have := grownCap_le_maxLen w (n + 1) c 71 (by unfold maxLen; omega)
  rw [← hG] at this
  unfold maxLen at this
  omega
 obtain ⟨ROW, hROW⟩ : ∃ ROW : Array Value, ROW = (inner.take (i * 2)).toArray ++ Builtin.zeroCells (Value.agg #[.string ⟨#[]⟩, .string ⟨#[]⟩]).cells (n + 1 - i) ++ Builtin.zeroCells (Value.agg #[.string ⟨#[]⟩, .string ⟨#[]⟩]).cells (G - (n + 1)) := ⟨_, rfl⟩
 rw [← hG] at hrz
 rw [← hROW] at hrz
 have hzc : (Value.agg #[.string ⟨#[]⟩, .string ⟨#[]⟩]).cells.size = 2 := rfl
 have hRl : ROW.size = G * 2 := by
  rw [hROW]
  simp only [Array.size_append, List.size_toArray, List.length_take, Builtin.zeroCells, Array.size_map, Array.size_range, hzc]
  omega
 have hRt : ROW.toList.take (i * 2) = inner.take (i * 2) := by
  rw [hROW, Array.toList_append, Array.toList_append, List.append_assoc, List.take_append_of_le_length (by rw [List.length_take]; omega), List.take_of_length_le (by rw [List.length_take]; omega)]
 have hblk : ∀ W : World, W.heap = (w.drew.alloc (.cells ROW 71)).heap → W.heap[w.heap.size]? = some (.cells ROW 71 (0, 0)) := fun W h => by rw [h]; exact blk_new w.drew _
 have hcpA : ∀ (W : World), W.heap = (w.drew.alloc (.cells ROW 71)).heap → ∀ ty dc, (Builtin.copy_ #[49, 49] ty #[.slice (some ⟨w.heap.size, i * 2, none⟩) (n + 1 - i) dc, .slice (some ⟨vb, 0, none⟩) 1 1]).run Tryz.prog W = .ok (goInt 1) (W.setCells w.heap.size (i * 2) vs) := fun W hWh ty dc =>
  run_copyZAttr W _ _ ty 71 w.heap.size (i * 2) (n + 1 - i) dc ⟨vb, 0, none⟩ 1 1 1 vs hu hsz (by simp only [Nat.min_def]; split <;> omega) (by omega)
   (fun j v hj => by
    rw [Addr.add_lit, Nat.zero_add, blk_cell (w := W) (g := vb) (cs := vs.toArray) (t := 71) (by rw [hWh]; exact blk_alloc (blk_drew hv) _) j, List.getElem?_toArray, hj])
   (fun j hj => by rw [blk_cell (hblk W hWh), Array.getElem?_eq_getElem (by omega)]; rfl) (fun j hj => blk_frozen (hblk W hWh) _) h1v
 obtain ⟨cur1, hh1, hs1, _⟩ := setCells_row vs (i * 2) (w.drew.alloc (.cells ROW 71)) ROW (blk_new w.drew _) (by omega)
 have hcpB : ∀ (W : World), W.heap = ((w.drew.alloc (.cells ROW 71)).setCells w.heap.size (i * 2) vs).heap → ∀ ty dl dc sl sc, dl = n - i → sl = n - i → (Builtin.copy_ #[49, 49] ty #[.slice (some ⟨w.heap.size, (i + 1) * 2, none⟩) dl dc, .slice (some ⟨g, i * 2, none⟩) sl sc]).run Tryz.prog W = .ok (goInt ((n - i : Nat) : Int)) (W.setCells w.heap.size ((i + 1) * 2) (inner.drop (i * 2))) := fun W hWh ty dl dc sl sc hdl_ hsl_ =>
  run_copyZAttr W _ _ ty 71 w.heap.size ((i + 1) * 2) dl dc ⟨g, i * 2, none⟩ sl sc (n - i) (inner.drop (i * 2)) hu hsz (by simp only [Nat.min_def]; split <;> omega) hdl
   (fun j v hj => by
    rw [Addr.add_lit]
    have h2 := hcell (i * 2 + j) v (by rwa [List.getElem?_drop] at hj)
    rw [blk_cell hb] at h2
    rw [blk_cell (w := W) (g := g) (cs := cur) (t := 71) (by rw [hWh, setCells_far _ _ _ (by omega)]; exact blk_alloc (blk_drew hb) _)]
    exact h2)
   (fun j hj => by rw [blk_cell (w := W) (g := w.heap.size) (cs := cur1) (t := 71) (by rw [hWh]; exact hh1), Array.getElem?_eq_getElem (by omega)]; rfl) (fun j hj => blk_frozen (w := W) (g := w.heap.size) (cs := cur1) (t := 71) (by rw [hWh]; exact hh1) _) (fun v hv => h1c v (List.mem_of_mem_drop hv))
 have hGi : ¬ (G = i) := by omega
 have hGim : ¬ (G = i + 1) := by omega
 have hci : ¬ (c = i) := by omega
 have hw1 : IntKind.i64.wrap ((i : Int) + (1 : Int)) = (i : Int) + (1 : Int) := by rw [IntKind.wrap_i64]; omega
 have hw2 : IntKind.i64.wrap ((n : Int) + (1 : Int)) = (n : Int) + (1 : Int) := by rw [IntKind.wrap_i64]; omega
 have hw3 : IntKind.i64.wrap ((n : Int) + (1 : Int) - (i : Int)) = (n : Int) + (1 : Int) - (i : Int) := by rw [IntKind.wrap_i64]; omega
 have hb1 : (0 : Int) ≤ (i : Int) + (1 : Int) := by omega
 have hin' : i ≤ n := by omega
 have htn : ((i : Int) + (1 : Int)).toNat = i + 1 := by omega
 have hb3 : (i : Int) ≤ (n : Int) := by omega
 clear hkk hik hold hROW hG hblk hh1 hs1
 go_enter Tryz.func56, Tryz.ntmps56
 go_wp2_with (first
  | (at_builtin; refine Lib.wpList_append_run _ rfl _ _ _ _ rfl _ _ rfl rfl _ _ (hrz _) ?_)
  | (refine wpList_copyZAttr _ rfl _ _ 49 49 rfl _ _ rfl rfl (hcpA _ rfl _ _) ?_))
 go_region_law_o (refine step_copyZAttr rfl _ _ 49 49 rfl (.slice (some ⟨w.heap.size, (i + 1) * 2, none⟩) (n + 1 - (i + 1)) (G - (i + 1))) (.slice (some ⟨g, i * 2, none⟩) (n - i) (c - i)) (by simp [Act.eval, Act.put]) (by simp [Act.eval, Act.put]) (hcpB ((((w.alloc (.cells ROW 71)).drew).setCells w.heap.size (i * 2) vs).drew) (by rfl) _ _ _ _ _ (by omega) (by omega)) ?_)
 go_wp2
 go_ret
 exact ⟨G, ROW, hGn, hG63, hRl, hRt, rfl, rfl⟩
/-- slices.Insert of one element: the row with it. -/
theorem insAttr.calls (A : Option Addr) (n c i vb base : Nat) (ok : Nat → Prop) (rows : List (List Value)) (vs : List Value) (w0 w : World) (hi : i ≤ n) (hn : rows.length = n) (hr : (Kd.raw 2).R 71 w base ok (.slice A n c) rows)
  (hv : w.heap[vb]? = some (.cells vs.toArray 71 (0, 0))) (hvb : some vb ≠ (Value.slice A n c).ownBlock) (hvl : vs.length = 2) (h1v : ∀ u ∈ vs, u.oneCell' = true) (hB : Below base w0 w) (hbase : base ≤ w.heap.size) (hbig : (n + 1) * 32 ≤ 140737488355328) :
  Calls Tryz.prog 56 #[.slice A n c, .int .i64 i, .slice (some ⟨vb, 0, none⟩) 1 1] w fun e w' => ∃ v', e = .returned v' ∧ (Kd.raw 2).R 71 w' base (fun k => some k = (Value.slice A n c).ownBlock ∨ w.heap.size ≤ k) v' (rows.take i ++ [vs] ++ rows.drop i) ∧
   Below base w0 w' ∧ w.grownBy w' (Value.slice A n c).ownBlock ∧ (v'.ownBlock = (Value.slice A n c).ownBlock ∨ ∃ b, v'.ownBlock = some b ∧ w.heap.size ≤ b) := by
 have hr' : (Kd.raw 2).R 71 w base (fun k => some k = (Value.slice A n c).ownBlock ∨ w.heap.size ≤ k) (.slice A n c) rows := ⟨fun k hk => .inl hk.symm, hr.2⟩
 rcases Nat.lt_or_ge i n with hlt | hge
 case inr =>
  obtain rfl : i = n := by omega
  rw [List.take_of_length_le (by omega), List.drop_of_length_le (by omega), List.append_nil]
  exact insAttr_end.calls A i c vb base rows vs w0 w hn hr' hv hvl h1v hB hbase hbig
 case inl =>
 obtain ⟨hok, inner, ⟨hil, hown⟩, hrep⟩ := hr'
 rcases hown with ⟨he, h0⟩ | ⟨g, cap, cur, he, hbg, hh, hnc, hcm, hcs, hin⟩
 ·omega
 injection he with ha hnn hcc
 subst ha; subst hcc; subst hnn
 rw [show (Kd.raw 2).sz = 2 from rfl] at hil hcs hin hrep
 have h1c : ∀ u ∈ inner, u.oneCell' = true := Kd.reps_one hrep (by decide) (fun p c h => h.2.2)
 have hrI := reps_ins (i := i) hrep (by omega) hvl h1v
 have hgv : vb ≠ g := fun he => hvb (by rw [he]; rfl)
 have hpl : i * 2 ≤ inner.length := by rw [hil]; omega
 have hlen3 : (rows.take i ++ [vs] ++ rows.drop i).length = rows.length + 1 := by simp only [List.length_append, List.length_take, List.length_drop, List.length_singleton]; omega
 rcases Nat.lt_or_ge c (rows.length + 1) with hg | hroom
 ·refine (insAttr_grow.calls g rows.length c i vb cur inner vs w hlt hnc hg hbig hh hcs hin hv hvl h1c h1v).mono ?_
  rintro e w' ⟨G, ROW, hGn, hG63, hRl, hRt, rfl, rfl⟩
  refine ⟨_, rfl, ?_, ?_, grown_alloc_two w _ _ _ _ _ _, .inr ⟨_, rfl, Nat.le_refl _⟩⟩
  ·obtain ⟨c1, k1, k2, k3⟩ := setCells_row (e := 71) vs (i * 2) (w.alloc (.cells ROW 71)).drew ROW (blk_drew (blk_new w _)) (by omega)
   obtain ⟨c2, l1, l2, l3⟩ := setCells_row (inner.drop (i * 2)) ((i + 1) * 2) _ c1 (blk_drew k1) (by rw [List.length_drop, k2, hil, hRl]; omega)
   have hm : G ≤ maxLen := hG63
   rw [hlen3.symm]
   refine rawR_of l1 (by rw [l2, k2, hRl]) (by omega) hm (by omega) (.inr (Nat.le_refl _)) rfl ?_
   rw [l3]
   have := ins_list2 ROW.toList inner vs (i * 2) 2 hvl hpl hRt c1.toList (by rw [Array.length_toList]; omega) k3
   rw [show (i + 1) * 2 = i * 2 + 2 by omega, show (rows.take i ++ [vs] ++ rows.drop i).length * 2 = inner.length + 2 by rw [hlen3, hil]; omega, this]
   exact hrI
  ·exact hB.grown (grown_alloc_two w _ _ _ _ _ none) hbase (fun k e => by cases e)
 ·refine (insAttr_shift.calls g rows.length c i vb cur inner vs w hlt hroom (by unfold maxLen at hcm; omega) hgv hh hcs hin hv hvl h1c h1v).mono ?_
  rintro e w' ⟨rfl, rfl⟩
  refine ⟨_, rfl, ?_, ?_, grown_two w g _ _ _ _, .inl rfl⟩
  ·obtain ⟨c1, k1, k2, k3⟩ := setCells_row (inner.drop (i * 2)) ((i + 1) * 2) w.drew cur (blk_drew hh) (by rw [List.length_drop, hil, hcs]; omega)
   obtain ⟨c2, l1, l2, l3⟩ := setCells_row vs (i * 2) _ c1 k1 (by rw [k2, hcs]; omega)
   rw [hlen3.symm]
   refine rawR_of l1 (by rw [l2, k2, hcs]) (by omega) hcm hbg (.inl rfl) rfl ?_
   rw [l3]
   have := ins_list cur.toList inner vs (i * 2) 2 hvl hpl (by rw [← hin, List.take_take, Nat.min_eq_left (by omega)]) (by rw [Array.length_toList, hcs]; omega) c1.toList (by rw [k3, show (i + 1) * 2 = i * 2 + 2 by omega])
   rw [show (rows.take i ++ [vs] ++ rows.drop i).length * 2 = inner.length + 2 by rw [hlen3, hil]; omega, this]
   exact hrI
  ·exact hB.grown (grown_two w g _ _ _ _) hbase (fun k e => by injection e with e; omega)
def slices_Insert_Attr.f (l0 : List S71) (a1 : Int) (l2 : List S71) : Option (List S71) := if 0 ≤ a1 ∧ a1 ≤ (l0.length : Int) ∧ (l0.length + 1) * 32 ≤ 140737488355328 then some (l0.take a1.toNat ++ l2 ++ l0.drop a1.toNat) else none
/-- One attribute put into a row of the call's own: the row, or another one. -/
theorem slices_Insert_Attr.calls (A : Option Addr) (c b0 : Nat) (ok : Nat → Prop) (l0 : List S71) (a1 : Int) (s t : ByteArray) (r : List S71) (w : World) (ho : Kd.R k71 71 w b0 ok (.slice A l0.length c) l0) (hb0 : b0 ≤ w.heap.size) (h : slices_Insert_Attr.f l0 a1 [⟨s, t⟩] = some r) :
  Calls Tryz.prog 56 #[.slice A l0.length c, .int .i64 a1, .slice (some ⟨w.heap.size, 0, none⟩) 1 1] (w.alloc (.cells #[.string s, .string t] 71 (0, 0))) fun e w' => ∃ v0_ : Value, e = .returned v0_ ∧ Kd.R k71 71 w' b0 (fun _ => True) v0_ r ∧ w.grownBy w' (Value.slice A l0.length c).ownBlock := by
 unfold slices_Insert_Attr.f at h
 split at h
 case isFalse => cases h
 case isTrue hc =>
 obtain ⟨h0, h1, hbig⟩ := hc
 obtain rfl := Option.some.inj h
 obtain ⟨i, rfl⟩ : ∃ i : Nat, a1 = (i : Int) := ⟨a1.toNat, by omega⟩
 have hraw := rawR (d := k71) encA (fun _ _ _ _ _ h => k71_openM h) (Kd.R_alloc ho (.cells #[.string s, .string t] 71 (0, 0)))
 have hne : some w.heap.size ≠ (Value.slice A l0.length c).ownBlock := fun he => Nat.lt_irrefl _ (Kd.R_lt ho _ he.symm)
 refine (insAttr.calls A l0.length c i w.heap.size b0 ok (l0.map encA) [.string s, .string t] (w.alloc (.cells #[.string s, .string t] 71 (0, 0))) (w.alloc (.cells #[.string s, .string t] 71 (0, 0))) (by omega) (List.length_map ..) hraw (blk_new w _) hne rfl (by simp; exact ⟨rfl, rfl⟩) (Below.refl _ _) (Nat.le_trans hb0 (by show w.heap.size ≤ (w.heap.push _).size; rw [Array.size_push]; omega)) hbig).mono ?_
 rintro e w' ⟨v', rfl, hr, hb, hg, hat⟩
 refine ⟨v', rfl, ?_, ⟨hg.os, hg.tape, hg.output, Nat.le_trans (by show w.heap.size ≤ (w.heap.push _).size; rw [Array.size_push]; omega) hg.size, fun k hk hn => (hg.block k (by show k < (w.heap.push _).size; rw [Array.size_push]; omega) hn).trans (by show (w.heap.push _)[k]? = _; rw [Array.getElem?_push, if_neg (Nat.ne_of_lt hk)])⟩⟩
 rw [show (l0.map encA).take i ++ [[.string s, .string t]] ++ (l0.map encA).drop i = (l0.take i ++ [(⟨s, t⟩ : S71)] ++ l0.drop i).map encA from by simp [List.map_take, List.map_drop, encA]] at hr
 exact Kd.R_mono (unrawR (d := k71) encA (fun _ _ _ x => k71_mkM _ _ _ x) hr) (fun _ _ => trivial)
/-! ### impl_attrsOk: function 92 -/
def impl_attrsOk.l0 : Nat → List (S71) → List (S71) → Int → Int → Option (Bool)
 | 0, _, _, _, _ => none
 | k + 1, x0, x5, x6, x7 => if x7 < x6 then (if 0 ≤ x7 then (if x7 < (x5.length : Int) then ((impl_NameOk.f k ((rd_T71 x5 x7).f0)).bind fun t190 => (if t190 = true then ((impl_from.f (((rd_T71 x5 x7).f1).size : Int) 1 16).bind fun t191 => (if t191 = true then (if x7 > 0 then (if 0 ≤ (wrap64 (x7 - 1)) then (if (wrap64 (x7 - 1)) < (x0.length : Int) then (if ((Op.bytesLess (((rd_T71 x0 (wrap64 (x7 - 1))).f0).toList) (((rd_T71 x5 x7).f0).toList)) = true) then (impl_attrsOk.l0 k x0 x5 x6 (wrap64 (x7 + 1))) else (some false)) else (none)) else (none)) else (impl_attrsOk.l0 k x0 x5 x6 (wrap64 (x7 + 1)))) else (some false))) else (some false))) else (none)) else (none)) else (some (decide ((x0.length : Int) ≤ 4)))
def impl_attrsOk.f (k : Nat) (l0 : List (S71)) : Option (Bool) := impl_attrsOk.l0 k l0 l0 (l0.length : Int) 0
set_option maxHeartbeats 8000000 in
set_option maxRecDepth 100000 in
theorem impl_attrsOk.calls (k : Nat) (A0 : Option Addr) (c0 : Nat) (l0 : List (S71)) (r : Bool) (w : World) (hr0 : Kd.C k71 w A0 l0.length l0) (hc0 : l0.length ≤ c0) (h : impl_attrsOk.f k l0 = some r) :
  Calls Tryz.prog 92 #[.slice A0 l0.length c0] w fun e w' => e = .returned (.bool r) ∧ Below w.heap.size w w' := by
 have hu71 := Tryz.underlying71
 have HR0 := Aside0.mk hr0
 have HC0 := Aside0.mk hc0
 clear hr0 hc0
 have HB := Aside0.mk (Below.refl w.heap.size w)
 unfold impl_attrsOk.f at h
 have H := h
 clear h
 have H' := Aside0.mk H
 clear H
 go_enter Tryz.func92, Tryz.ntmps92
 go_wp2
 repeat (go_quiet (fail); try go_wp2)
 go_loopg [7] k (fun kq v7 w' => ∃ (x7_1 : Int), v7 = .int .i64 x7_1 ∧ Aside0 (impl_attrsOk.l0 kq l0 l0 (l0.length : Int) x7_1 = some r) ∧ Aside0 (kq ≤ k) ∧ Aside0 (Below w.heap.size w w'))
 case atStart => exact ⟨(0), oS, H', ⟨Nat.le_refl _⟩, ⟨oB⟩⟩
 case round =>
  clear H'
  obtain ⟨x7_1, rfl, HA, HK1, HB⟩ := hrel
  cases gk with
  | zero => exact absurd HA.out (by simp [impl_attrsOk.l0])
  | succ k1 =>
   have H := HA.out
   clear HA
   simp only [impl_attrsOk.l0] at H
   replace H := itD H
   rcases H with ⟨c2b0, H⟩ | ⟨c2b0, H⟩
   ·replace H := itD H
    rcases H with ⟨c3b0, H⟩ | ⟨c3b0, H⟩
    ·replace H := itD H
     rcases H with ⟨c4b0, H⟩ | ⟨c4b0, H⟩
     ·replace H := bA H
      obtain ⟨t190, A5, H⟩ := H
      try dsimp only at H
      replace H := itB H
      rcases H with ⟨rfl, H⟩ | ⟨rfl, H⟩
      ·replace H := bA H
       obtain ⟨t191, A7, H⟩ := H
       try dsimp only at H
       replace H := itB H
       rcases H with ⟨rfl, H⟩ | ⟨rfl, H⟩
       ·replace H := itG H
        rcases H with ⟨c9b0, H⟩ | ⟨c9b0, H⟩
        ·obtain ⟨ji10, hji10⟩ : ∃ j_ : Int, (wrap64 (x7_1 - 1)) = j_ := ⟨_, rfl⟩
         replace H : (if 0 ≤ (ji10) then (if (ji10) < (l0.length : Int) then (if ((Op.bytesLess (((rd_T71 l0 (ji10)).f0).toList) (((rd_T71 l0 x7_1).f0).toList)) = true) then (impl_attrsOk.l0 k1 l0 l0 (l0.length : Int) (wrap64 (x7_1 + 1))) else (some false)) else (none)) else (none)) = some r := by first | (rw [hji10] at H; exact H) | (simp only [hji10] at H ⊢; exact H)
         (try rw [hji10] at A5)
         (try rw [hji10] at A7)
         have hji10w : (IntKind.i64.wrap (x7_1 - 1)) = ji10 := (i64_w _).trans hji10
         replace H := itD H
         rcases H with ⟨c11b0, H⟩ | ⟨c11b0, H⟩
         ·replace H := itD H
          rcases H with ⟨c12b0, H⟩ | ⟨c12b0, H⟩
          ·by_cases c13 : ((Op.bytesLess (((rd_T71 l0 (ji10)).f0).toList) (((rd_T71 l0 x7_1).f0).toList)) = true)
           ·rw [if_pos c13] at H
            have c13b0 : (Op.bytesLess (((rd_T71 l0 (ji10)).f0).toList) (((rd_T71 l0 x7_1).f0).toList)) = true := c13
            clear c13
            have H' := Aside0.mk H
            clear H
            have p188 : (0 ≤ (x7_1 : Int)) = True := oT
            have q188 : (x7_1 < (l0.length : Int)) = True := oT
            obtain ⟨ad188, e188, hx188_0, hx188_1⟩ := at_T71 HR0.out x7_1 oa oa
            cases e188
            replace hx188_0 := cB HB hx188_0
            replace hx188_1 := cB HB hx188_1
            go_wp2_with (first | ((with_reducible refine gate_dst (N := 4) rfl ?_); (try (refine gate_guard (by rfl) ?_; dsimp only)); refine bx_ 4 #[.string (⟨#[]⟩ : ByteArray), .string (⟨#[]⟩ : ByteArray)] 71 ?_; intro gb189 hg w14 hbox hb; have BK189 := Aside0.mk (hbox); have GW189 := gs_ hg; replace HB := Aside0.mk (below_step oB hb); clear hb hbox hg; obtain ⟨⟨_, _⟩, _, _⟩ := z2 BK189) | (go_at_call 52; (with_reducible refine (impl_NameOk.calls k1 ((rd_T71 l0 x7_1).f0) true _ A5.out).mono ?_); rintro e w' ⟨rfl, ⟨nd, rfl⟩⟩) | (go_at_call 47; (with_reducible refine (impl_from.calls (((rd_T71 l0 x7_1).f1).size : Int) 1 16 true _ A7.out).mono ?_); rintro e w' ⟨rfl, ⟨nd, rfl⟩⟩; have p192 : (0 ≤ ((ji10) : Int)) = True := oT; have q192 : ((ji10) < (l0.length : Int)) = True := oT; obtain ⟨ad192, e192, hx192_0, hx192_1⟩ := at_T71 HR0.out (ji10) oa oa; obtain rfl : ad188 = ad192 := (by injection e192); have hn192_0 : ad188.block ≠ gb189 := cn_ hx192_0 GW189; have hn192_1 : ad188.block ≠ gb189 := cn_ hx192_0 GW189; replace hx192_0 := cB HB hx192_0; replace hx192_1 := cB HB hx192_1; replace hx192_0 := cf_ 0 (.string ((rd_T71 l0 x7_1).f0)) hn192_0 hx192_0; replace hx192_1 := cf_ 0 (.string ((rd_T71 l0 x7_1).f0)) hn192_0 hx192_1; replace hx192_0 := cf_ 1 (.string ((rd_T71 l0 x7_1).f1)) hn192_1 hx192_0; replace hx192_1 := cf_ 1 (.string ((rd_T71 l0 x7_1).f1)) hn192_1 hx192_1; (try have hy192_0 := fun (n_ : Nat) => (show ((((w14.drewN n_).setCell ⟨gb189, 0, none⟩ (.string ((rd_T71 l0 x7_1).f0))).setCell ⟨gb189, 1, none⟩ (.string ((rd_T71 l0 x7_1).f1)))).cell? _ = some _ from hx192_0)); (try have hy192_1 := fun (n_ : Nat) => (show ((((w14.drewN n_).setCell ⟨gb189, 0, none⟩ (.string ((rd_T71 l0 x7_1).f0))).setCell ⟨gb189, 1, none⟩ (.string ((rd_T71 l0 x7_1).f1)))).cell? _ = some _ from hx192_1)); clear hn192_0; clear hn192_1))
            try (have p192 : 0 ≤ ((ji10) : Int) := oa; have q192 : (ji10) < (l0.length : Int) := oa; obtain ⟨ad192, e192, hx192_0, hx192_1⟩ := at_T71 HR0.out (ji10) p192 q192; obtain rfl : ad188 = ad192 := (by injection e192); have hn192_0 : ad188.block ≠ gb189 := cn_ hx192_0 GW189; have hn192_1 : ad188.block ≠ gb189 := cn_ hx192_0 GW189; replace hx192_0 := cB HB hx192_0; replace hx192_1 := cB HB hx192_1; replace hx192_0 := cf_ 0 (.string ((rd_T71 l0 x7_1).f0)) hn192_0 hx192_0; replace hx192_1 := cf_ 0 (.string ((rd_T71 l0 x7_1).f0)) hn192_0 hx192_1; replace hx192_0 := cf_ 1 (.string ((rd_T71 l0 x7_1).f1)) hn192_1 hx192_0; replace hx192_1 := cf_ 1 (.string ((rd_T71 l0 x7_1).f1)) hn192_1 hx192_1; (try have hy192_0 := fun (n_ : Nat) => (show ((((w14.drewN n_).setCell ⟨gb189, 0, none⟩ (.string ((rd_T71 l0 x7_1).f0))).setCell ⟨gb189, 1, none⟩ (.string ((rd_T71 l0 x7_1).f1)))).cell? _ = some _ from hx192_0)); (try have hy192_1 := fun (n_ : Nat) => (show ((((w14.drewN n_).setCell ⟨gb189, 0, none⟩ (.string ((rd_T71 l0 x7_1).f0))).setCell ⟨gb189, 1, none⟩ (.string ((rd_T71 l0 x7_1).f1)))).cell? _ = some _ from hx192_1)); clear hn192_0; clear hn192_1; replace p192 := eq_true p192; replace q192 := eq_true q192)
            repeat (go_quiet (first | (go_at_call 52; (with_reducible refine (impl_NameOk.calls k1 ((rd_T71 l0 x7_1).f0) true _ A5.out).mono ?_); rintro e w' ⟨rfl, ⟨nd, rfl⟩⟩; exact oQ) | (go_at_call 47; (with_reducible refine (impl_from.calls (((rd_T71 l0 x7_1).f1).size : Int) 1 16 true _ A7.out).mono ?_); rintro e w' ⟨rfl, ⟨nd, rfl⟩⟩; exact oQ)); try go_wp2_with (first | ((with_reducible refine gate_dst (N := 4) rfl ?_); (try (refine gate_guard (by rfl) ?_; dsimp only)); refine bx_ 4 #[.string (⟨#[]⟩ : ByteArray), .string (⟨#[]⟩ : ByteArray)] 71 ?_; intro gb189 hg w14 hbox hb; have BK189 := Aside0.mk (hbox); have GW189 := gs_ hg; replace HB := Aside0.mk (below_step oB hb); clear hb hbox hg; obtain ⟨⟨_, _⟩, _, _⟩ := z2 BK189) | (go_at_call 52; (with_reducible refine (impl_NameOk.calls k1 ((rd_T71 l0 x7_1).f0) true _ A5.out).mono ?_); rintro e w' ⟨rfl, ⟨nd, rfl⟩⟩) | (go_at_call 47; (with_reducible refine (impl_from.calls (((rd_T71 l0 x7_1).f1).size : Int) 1 16 true _ A7.out).mono ?_); rintro e w' ⟨rfl, ⟨nd, rfl⟩⟩; have p192 : (0 ≤ ((ji10) : Int)) = True := oT; have q192 : ((ji10) < (l0.length : Int)) = True := oT; obtain ⟨ad192, e192, hx192_0, hx192_1⟩ := at_T71 HR0.out (ji10) oa oa; obtain rfl : ad188 = ad192 := (by injection e192); have hn192_0 : ad188.block ≠ gb189 := cn_ hx192_0 GW189; have hn192_1 : ad188.block ≠ gb189 := cn_ hx192_0 GW189; replace hx192_0 := cB HB hx192_0; replace hx192_1 := cB HB hx192_1; replace hx192_0 := cf_ 0 (.string ((rd_T71 l0 x7_1).f0)) hn192_0 hx192_0; replace hx192_1 := cf_ 0 (.string ((rd_T71 l0 x7_1).f0)) hn192_0 hx192_1; replace hx192_0 := cf_ 1 (.string ((rd_T71 l0 x7_1).f1)) hn192_1 hx192_0; replace hx192_1 := cf_ 1 (.string ((rd_T71 l0 x7_1).f1)) hn192_1 hx192_1; (try have hy192_0 := fun (n_ : Nat) => (show ((((w14.drewN n_).setCell ⟨gb189, 0, none⟩ (.string ((rd_T71 l0 x7_1).f0))).setCell ⟨gb189, 1, none⟩ (.string ((rd_T71 l0 x7_1).f1)))).cell? _ = some _ from hx192_0)); (try have hy192_1 := fun (n_ : Nat) => (show ((((w14.drewN n_).setCell ⟨gb189, 0, none⟩ (.string ((rd_T71 l0 x7_1).f0))).setCell ⟨gb189, 1, none⟩ (.string ((rd_T71 l0 x7_1).f1)))).cell? _ = some _ from hx192_1)); clear hn192_0; clear hn192_1)))
            go_roundg k1
            case measure => have := HK1.out; omega
            case rel => exact ⟨(wrap64 (x7_1 + 1)), oS, H', ⟨by have := HK1.out; omega⟩, ⟨oB⟩⟩
           ·rw [if_neg c13] at H
            have c13b0 : (Op.bytesLess (((rd_T71 l0 (ji10)).f0).toList) (((rd_T71 l0 x7_1).f0).toList)) = false := by simpa using c13
            clear c13
            obtain rfl := Option.some.inj H
            have p188 : (0 ≤ (x7_1 : Int)) = True := oT
            have q188 : (x7_1 < (l0.length : Int)) = True := oT
            obtain ⟨ad188, e188, hx188_0, hx188_1⟩ := at_T71 HR0.out x7_1 oa oa
            cases e188
            replace hx188_0 := cB HB hx188_0
            replace hx188_1 := cB HB hx188_1
            go_wp2_with (first | ((with_reducible refine gate_dst (N := 4) rfl ?_); (try (refine gate_guard (by rfl) ?_; dsimp only)); refine bx_ 4 #[.string (⟨#[]⟩ : ByteArray), .string (⟨#[]⟩ : ByteArray)] 71 ?_; intro gb189 hg w16 hbox hb; have BK189 := Aside0.mk (hbox); have GW189 := gs_ hg; replace HB := Aside0.mk (below_step oB hb); clear hb hbox hg; obtain ⟨⟨_, _⟩, _, _⟩ := z2 BK189) | (go_at_call 52; (with_reducible refine (impl_NameOk.calls k1 ((rd_T71 l0 x7_1).f0) true _ A5.out).mono ?_); rintro e w' ⟨rfl, ⟨nd, rfl⟩⟩) | (go_at_call 47; (with_reducible refine (impl_from.calls (((rd_T71 l0 x7_1).f1).size : Int) 1 16 true _ A7.out).mono ?_); rintro e w' ⟨rfl, ⟨nd, rfl⟩⟩; have p192 : (0 ≤ ((ji10) : Int)) = True := oT; have q192 : ((ji10) < (l0.length : Int)) = True := oT; obtain ⟨ad192, e192, hx192_0, hx192_1⟩ := at_T71 HR0.out (ji10) oa oa; obtain rfl : ad188 = ad192 := (by injection e192); have hn192_0 : ad188.block ≠ gb189 := cn_ hx192_0 GW189; have hn192_1 : ad188.block ≠ gb189 := cn_ hx192_0 GW189; replace hx192_0 := cB HB hx192_0; replace hx192_1 := cB HB hx192_1; replace hx192_0 := cf_ 0 (.string ((rd_T71 l0 x7_1).f0)) hn192_0 hx192_0; replace hx192_1 := cf_ 0 (.string ((rd_T71 l0 x7_1).f0)) hn192_0 hx192_1; replace hx192_0 := cf_ 1 (.string ((rd_T71 l0 x7_1).f1)) hn192_1 hx192_0; replace hx192_1 := cf_ 1 (.string ((rd_T71 l0 x7_1).f1)) hn192_1 hx192_1; (try have hy192_0 := fun (n_ : Nat) => (show ((((w16.drewN n_).setCell ⟨gb189, 0, none⟩ (.string ((rd_T71 l0 x7_1).f0))).setCell ⟨gb189, 1, none⟩ (.string ((rd_T71 l0 x7_1).f1)))).cell? _ = some _ from hx192_0)); (try have hy192_1 := fun (n_ : Nat) => (show ((((w16.drewN n_).setCell ⟨gb189, 0, none⟩ (.string ((rd_T71 l0 x7_1).f0))).setCell ⟨gb189, 1, none⟩ (.string ((rd_T71 l0 x7_1).f1)))).cell? _ = some _ from hx192_1)); clear hn192_0; clear hn192_1))
            try (have p192 : 0 ≤ ((ji10) : Int) := oa; have q192 : (ji10) < (l0.length : Int) := oa; obtain ⟨ad192, e192, hx192_0, hx192_1⟩ := at_T71 HR0.out (ji10) p192 q192; obtain rfl : ad188 = ad192 := (by injection e192); have hn192_0 : ad188.block ≠ gb189 := cn_ hx192_0 GW189; have hn192_1 : ad188.block ≠ gb189 := cn_ hx192_0 GW189; replace hx192_0 := cB HB hx192_0; replace hx192_1 := cB HB hx192_1; replace hx192_0 := cf_ 0 (.string ((rd_T71 l0 x7_1).f0)) hn192_0 hx192_0; replace hx192_1 := cf_ 0 (.string ((rd_T71 l0 x7_1).f0)) hn192_0 hx192_1; replace hx192_0 := cf_ 1 (.string ((rd_T71 l0 x7_1).f1)) hn192_1 hx192_0; replace hx192_1 := cf_ 1 (.string ((rd_T71 l0 x7_1).f1)) hn192_1 hx192_1; (try have hy192_0 := fun (n_ : Nat) => (show ((((w16.drewN n_).setCell ⟨gb189, 0, none⟩ (.string ((rd_T71 l0 x7_1).f0))).setCell ⟨gb189, 1, none⟩ (.string ((rd_T71 l0 x7_1).f1)))).cell? _ = some _ from hx192_0)); (try have hy192_1 := fun (n_ : Nat) => (show ((((w16.drewN n_).setCell ⟨gb189, 0, none⟩ (.string ((rd_T71 l0 x7_1).f0))).setCell ⟨gb189, 1, none⟩ (.string ((rd_T71 l0 x7_1).f1)))).cell? _ = some _ from hx192_1)); clear hn192_0; clear hn192_1; replace p192 := eq_true p192; replace q192 := eq_true q192)
            repeat (go_quiet (first | (go_at_call 52; (with_reducible refine (impl_NameOk.calls k1 ((rd_T71 l0 x7_1).f0) true _ A5.out).mono ?_); rintro e w' ⟨rfl, ⟨nd, rfl⟩⟩; exact oQ) | (go_at_call 47; (with_reducible refine (impl_from.calls (((rd_T71 l0 x7_1).f1).size : Int) 1 16 true _ A7.out).mono ?_); rintro e w' ⟨rfl, ⟨nd, rfl⟩⟩; exact oQ)); try go_wp2_with (first | ((with_reducible refine gate_dst (N := 4) rfl ?_); (try (refine gate_guard (by rfl) ?_; dsimp only)); refine bx_ 4 #[.string (⟨#[]⟩ : ByteArray), .string (⟨#[]⟩ : ByteArray)] 71 ?_; intro gb189 hg w16 hbox hb; have BK189 := Aside0.mk (hbox); have GW189 := gs_ hg; replace HB := Aside0.mk (below_step oB hb); clear hb hbox hg; obtain ⟨⟨_, _⟩, _, _⟩ := z2 BK189) | (go_at_call 52; (with_reducible refine (impl_NameOk.calls k1 ((rd_T71 l0 x7_1).f0) true _ A5.out).mono ?_); rintro e w' ⟨rfl, ⟨nd, rfl⟩⟩) | (go_at_call 47; (with_reducible refine (impl_from.calls (((rd_T71 l0 x7_1).f1).size : Int) 1 16 true _ A7.out).mono ?_); rintro e w' ⟨rfl, ⟨nd, rfl⟩⟩; have p192 : (0 ≤ ((ji10) : Int)) = True := oT; have q192 : ((ji10) < (l0.length : Int)) = True := oT; obtain ⟨ad192, e192, hx192_0, hx192_1⟩ := at_T71 HR0.out (ji10) oa oa; obtain rfl : ad188 = ad192 := (by injection e192); have hn192_0 : ad188.block ≠ gb189 := cn_ hx192_0 GW189; have hn192_1 : ad188.block ≠ gb189 := cn_ hx192_0 GW189; replace hx192_0 := cB HB hx192_0; replace hx192_1 := cB HB hx192_1; replace hx192_0 := cf_ 0 (.string ((rd_T71 l0 x7_1).f0)) hn192_0 hx192_0; replace hx192_1 := cf_ 0 (.string ((rd_T71 l0 x7_1).f0)) hn192_0 hx192_1; replace hx192_0 := cf_ 1 (.string ((rd_T71 l0 x7_1).f1)) hn192_1 hx192_0; replace hx192_1 := cf_ 1 (.string ((rd_T71 l0 x7_1).f1)) hn192_1 hx192_1; (try have hy192_0 := fun (n_ : Nat) => (show ((((w16.drewN n_).setCell ⟨gb189, 0, none⟩ (.string ((rd_T71 l0 x7_1).f0))).setCell ⟨gb189, 1, none⟩ (.string ((rd_T71 l0 x7_1).f1)))).cell? _ = some _ from hx192_0)); (try have hy192_1 := fun (n_ : Nat) => (show ((((w16.drewN n_).setCell ⟨gb189, 0, none⟩ (.string ((rd_T71 l0 x7_1).f0))).setCell ⟨gb189, 1, none⟩ (.string ((rd_T71 l0 x7_1).f1)))).cell? _ = some _ from hx192_1)); clear hn192_0; clear hn192_1)))
            go_ret
            exact ⟨by first | rfl | (simp [errW_none, errW_some] <;> rfl) | (simp only [← hji10]; first | rfl | (simp [errW_none, errW_some] <;> rfl)) | (simp [*, errW_none, errW_some] <;> rfl), oB⟩
          ·cases H
         ·cases H
        ·have H' := Aside0.mk H
         clear H
         have p188 : (0 ≤ (x7_1 : Int)) = True := oT
         have q188 : (x7_1 < (l0.length : Int)) = True := oT
         obtain ⟨ad188, e188, hx188_0, hx188_1⟩ := at_T71 HR0.out x7_1 oa oa
         cases e188
         replace hx188_0 := cB HB hx188_0
         replace hx188_1 := cB HB hx188_1
         go_wp2_with (first | ((with_reducible refine gate_dst (N := 4) rfl ?_); (try (refine gate_guard (by rfl) ?_; dsimp only)); refine bx_ 4 #[.string (⟨#[]⟩ : ByteArray), .string (⟨#[]⟩ : ByteArray)] 71 ?_; intro gb189 hg w18 hbox hb; have BK189 := Aside0.mk (hbox); have GW189 := gs_ hg; replace HB := Aside0.mk (below_step oB hb); clear hb hbox hg; obtain ⟨⟨_, _⟩, _, _⟩ := z2 BK189) | (go_at_call 52; (with_reducible refine (impl_NameOk.calls k1 ((rd_T71 l0 x7_1).f0) true _ A5.out).mono ?_); rintro e w' ⟨rfl, ⟨nd, rfl⟩⟩) | (go_at_call 47; (with_reducible refine (impl_from.calls (((rd_T71 l0 x7_1).f1).size : Int) 1 16 true _ A7.out).mono ?_); rintro e w' ⟨rfl, ⟨nd, rfl⟩⟩))
         repeat (go_quiet (first | (go_at_call 52; (with_reducible refine (impl_NameOk.calls k1 ((rd_T71 l0 x7_1).f0) true _ A5.out).mono ?_); rintro e w' ⟨rfl, ⟨nd, rfl⟩⟩; exact oQ) | (go_at_call 47; (with_reducible refine (impl_from.calls (((rd_T71 l0 x7_1).f1).size : Int) 1 16 true _ A7.out).mono ?_); rintro e w' ⟨rfl, ⟨nd, rfl⟩⟩; exact oQ)); try go_wp2_with (first | ((with_reducible refine gate_dst (N := 4) rfl ?_); (try (refine gate_guard (by rfl) ?_; dsimp only)); refine bx_ 4 #[.string (⟨#[]⟩ : ByteArray), .string (⟨#[]⟩ : ByteArray)] 71 ?_; intro gb189 hg w18 hbox hb; have BK189 := Aside0.mk (hbox); have GW189 := gs_ hg; replace HB := Aside0.mk (below_step oB hb); clear hb hbox hg; obtain ⟨⟨_, _⟩, _, _⟩ := z2 BK189) | (go_at_call 52; (with_reducible refine (impl_NameOk.calls k1 ((rd_T71 l0 x7_1).f0) true _ A5.out).mono ?_); rintro e w' ⟨rfl, ⟨nd, rfl⟩⟩) | (go_at_call 47; (with_reducible refine (impl_from.calls (((rd_T71 l0 x7_1).f1).size : Int) 1 16 true _ A7.out).mono ?_); rintro e w' ⟨rfl, ⟨nd, rfl⟩⟩)))
         go_roundg k1
         case measure => have := HK1.out; omega
         case rel => exact ⟨(wrap64 (x7_1 + 1)), oS, H', ⟨by have := HK1.out; omega⟩, ⟨oB⟩⟩
       ·obtain rfl := Option.some.inj H
        have p188 : (0 ≤ (x7_1 : Int)) = True := oT
        have q188 : (x7_1 < (l0.length : Int)) = True := oT
        obtain ⟨ad188, e188, hx188_0, hx188_1⟩ := at_T71 HR0.out x7_1 oa oa
        cases e188
        replace hx188_0 := cB HB hx188_0
        replace hx188_1 := cB HB hx188_1
        go_wp2_with (first | ((with_reducible refine gate_dst (N := 4) rfl ?_); (try (refine gate_guard (by rfl) ?_; dsimp only)); refine bx_ 4 #[.string (⟨#[]⟩ : ByteArray), .string (⟨#[]⟩ : ByteArray)] 71 ?_; intro gb189 hg w20 hbox hb; have BK189 := Aside0.mk (hbox); have GW189 := gs_ hg; replace HB := Aside0.mk (below_step oB hb); clear hb hbox hg; obtain ⟨⟨_, _⟩, _, _⟩ := z2 BK189) | (go_at_call 52; (with_reducible refine (impl_NameOk.calls k1 ((rd_T71 l0 x7_1).f0) true _ A5.out).mono ?_); rintro e w' ⟨rfl, ⟨nd, rfl⟩⟩) | (go_at_call 47; (with_reducible refine (impl_from.calls (((rd_T71 l0 x7_1).f1).size : Int) 1 16 false _ A7.out).mono ?_); rintro e w' ⟨rfl, ⟨nd, rfl⟩⟩))
        repeat (go_quiet (first | (go_at_call 52; (with_reducible refine (impl_NameOk.calls k1 ((rd_T71 l0 x7_1).f0) true _ A5.out).mono ?_); rintro e w' ⟨rfl, ⟨nd, rfl⟩⟩; exact oQ) | (go_at_call 47; (with_reducible refine (impl_from.calls (((rd_T71 l0 x7_1).f1).size : Int) 1 16 false _ A7.out).mono ?_); rintro e w' ⟨rfl, ⟨nd, rfl⟩⟩; exact oQ)); try go_wp2_with (first | ((with_reducible refine gate_dst (N := 4) rfl ?_); (try (refine gate_guard (by rfl) ?_; dsimp only)); refine bx_ 4 #[.string (⟨#[]⟩ : ByteArray), .string (⟨#[]⟩ : ByteArray)] 71 ?_; intro gb189 hg w20 hbox hb; have BK189 := Aside0.mk (hbox); have GW189 := gs_ hg; replace HB := Aside0.mk (below_step oB hb); clear hb hbox hg; obtain ⟨⟨_, _⟩, _, _⟩ := z2 BK189) | (go_at_call 52; (with_reducible refine (impl_NameOk.calls k1 ((rd_T71 l0 x7_1).f0) true _ A5.out).mono ?_); rintro e w' ⟨rfl, ⟨nd, rfl⟩⟩) | (go_at_call 47; (with_reducible refine (impl_from.calls (((rd_T71 l0 x7_1).f1).size : Int) 1 16 false _ A7.out).mono ?_); rintro e w' ⟨rfl, ⟨nd, rfl⟩⟩)))
        go_ret
        exact ⟨oE, oB⟩
      ·obtain rfl := Option.some.inj H
       have p188 : (0 ≤ (x7_1 : Int)) = True := oT
       have q188 : (x7_1 < (l0.length : Int)) = True := oT
       obtain ⟨ad188, e188, hx188_0, hx188_1⟩ := at_T71 HR0.out x7_1 oa oa
       cases e188
       replace hx188_0 := cB HB hx188_0
       replace hx188_1 := cB HB hx188_1
       go_wp2_with (first | ((with_reducible refine gate_dst (N := 4) rfl ?_); (try (refine gate_guard (by rfl) ?_; dsimp only)); refine bx_ 4 #[.string (⟨#[]⟩ : ByteArray), .string (⟨#[]⟩ : ByteArray)] 71 ?_; intro gb189 hg w22 hbox hb; have BK189 := Aside0.mk (hbox); have GW189 := gs_ hg; replace HB := Aside0.mk (below_step oB hb); clear hb hbox hg; obtain ⟨⟨_, _⟩, _, _⟩ := z2 BK189) | (go_at_call 52; (with_reducible refine (impl_NameOk.calls k1 ((rd_T71 l0 x7_1).f0) false _ A5.out).mono ?_); rintro e w' ⟨rfl, ⟨nd, rfl⟩⟩))
       repeat (go_quiet (first | (go_at_call 52; (with_reducible refine (impl_NameOk.calls k1 ((rd_T71 l0 x7_1).f0) false _ A5.out).mono ?_); rintro e w' ⟨rfl, ⟨nd, rfl⟩⟩; exact oQ)); try go_wp2_with (first | ((with_reducible refine gate_dst (N := 4) rfl ?_); (try (refine gate_guard (by rfl) ?_; dsimp only)); refine bx_ 4 #[.string (⟨#[]⟩ : ByteArray), .string (⟨#[]⟩ : ByteArray)] 71 ?_; intro gb189 hg w22 hbox hb; have BK189 := Aside0.mk (hbox); have GW189 := gs_ hg; replace HB := Aside0.mk (below_step oB hb); clear hb hbox hg; obtain ⟨⟨_, _⟩, _, _⟩ := z2 BK189) | (go_at_call 52; (with_reducible refine (impl_NameOk.calls k1 ((rd_T71 l0 x7_1).f0) false _ A5.out).mono ?_); rintro e w' ⟨rfl, ⟨nd, rfl⟩⟩)))
       go_ret
       exact ⟨oE, oB⟩
     ·cases H
    ·cases H
   ·obtain rfl := Option.some.inj H
    go_wp2
    repeat (go_quiet (fail); try go_wp2)
    go_ret
    exact ⟨oE, oB⟩

/-! ### impl_namesOk: function 37 -/
theorem namesOk1.calls (k : Nat) (s : ByteArray) (t : Bool) (w : World) (h : impl_NameOk.f k s = some t) :
  Calls Tryz.prog 65 #[.string s] w fun e w' => e = .returned (.bool (!t)) ∧ Below w.heap.size w w' := by
 have hc := impl_NameOk.calls k s t w h
 clear h
 go_enter Tryz.func65, Tryz.ntmps65
 go_wp2_with (go_at_call 52; refine hc.mono ?_; rintro e w1 ⟨rfl, m, rfl⟩)
 go_ret
 exact ⟨rfl, pw_below_drewN (Below.refl _ _) m⟩
/-- The first of the names that is not right, counted from i on. -/
def badR (k : Nat) : List ByteArray → Nat → Option Int
 | [], _ => some (-1)
 | x :: l, i => (impl_NameOk.f k x).bind fun t => if t = true then badR k l (i + 1) else some (i : Int)
set_option maxHeartbeats 1000000 in
set_option maxRecDepth 100000 in
theorem namesIdx.calls (k : Nat) (A0 : Option Addr) (c0 : Nat) (l : List ByteArray) (r : Int) (w : World) (hr : Kd.C Kd.string w A0 l.length l) (hl : l.length ≤ 9223372036854775807) (h : badR k l 0 = some r) :
  Calls Tryz.prog 91 #[.slice A0 l.length c0, .func (.func 65) #[] #[]] w fun e w' => e = .returned (.int .i64 r) ∧ Below w.heap.size w w' := by
 have H0 := Aside0.mk h
 clear h
 go_enter Tryz.func91, Tryz.ntmps91
 go_wp2
 go_loopg [5, 8] l.length (fun gg _ s8 wr => ∃ kk : Nat, kk ≤ l.length ∧ l.length - kk ≤ gg ∧ s8 = .int .i64 kk ∧ Aside0 (Below w.heap.size w wr) ∧ Aside0 (badR k (l.drop kk) kk = some r))
 case atStart => exact ⟨0, Nat.zero_le _, by omega, rfl, ⟨Below.refl _ w⟩, H0⟩
 case round =>
  clear H0
  obtain ⟨kk, hkk, hg, rfl, BW, HA⟩ := hrel
  by_cases hlt : kk < l.length
  ·have hltz : (kk : Int) < (l.length : Int) := by omega
   have h1 := HA.out
   rw [List.drop_eq_getElem_cons hlt, badR] at h1
   replace h1 := bA h1
   obtain ⟨t, A1, h1⟩ := h1
   obtain ⟨ad, c, e0, hcl, hK, hcell⟩ := Kd.C_get (Kd.C_below hr BW.out) ⟨#[]⟩ (kk : Int) (by omega) hltz
   cases e0
   have hx : l.getD (kk : Int).toNat ⟨#[]⟩ = l[kk] := by rw [Int.toNat_natCast, List.getD_eq_getElem?_getD, List.getElem?_eq_getElem hlt]; rfl
   rw [hx] at hK
   obtain rfl : c = [.string l[kk]] := hK
   have h0 : wr.cell? (ad.add kk) = some (.string l[kk]) := by have := hcell 0 _ rfl; simpa [Kd.string, Kd.scalar] using this
   clear hcell hcl hx
   cases t with
   | true =>
    have H' := Aside0.mk h1
    clear h1
    go_wp2_with (go_at_call 65; refine (namesOk1.calls k l[kk] true _ A1.out).mono ?_; rintro e w1 ⟨rfl, hb⟩)
    go_roundg (l.length - (kk + 1))
    case measure => omega
    case rel => exact ⟨kk + 1, by omega, by omega, by go_num, ⟨below_then BW.out BW.out.size hb⟩, H'⟩
   | false =>
    obtain rfl := Option.some.inj h1
    go_wp2_with (go_at_call 65; refine (namesOk1.calls k l[kk] false _ A1.out).mono ?_; rintro e w1 ⟨rfl, hb⟩)
    go_ret
    exact ⟨rfl, below_then BW.out BW.out.size hb⟩
  ·have hltz : ¬ (kk : Int) < (l.length : Int) := by omega
   obtain rfl : kk = l.length := by omega
   have h1 := HA.out
   rw [List.drop_length, badR] at h1
   obtain rfl := Option.some.inj h1
   go_wp2
   go_ret
   exact ⟨rfl, BW.out⟩
theorem namesAny.calls (k : Nat) (A0 : Option Addr) (c0 : Nat) (l : List ByteArray) (r : Int) (w : World) (hr : Kd.C Kd.string w A0 l.length l) (hl : l.length ≤ 9223372036854775807) (h : badR k l 0 = some r) :
  Calls Tryz.prog 64 #[.slice A0 l.length c0, .func (.func 65) #[] #[]] w fun e w' => e = .returned (.bool (decide (0 ≤ r))) ∧ Below w.heap.size w w' := by
 have hc := namesIdx.calls k A0 c0 l r w hr hl h
 clear hr h
 go_enter Tryz.func64, Tryz.ntmps64
 go_wp2_with (go_at_call 91; refine hc.mono ?_; rintro e w1 ⟨rfl, hb⟩)
 go_ret
 exact ⟨rfl, hb⟩
def impl_namesOk.f (k : Nat) (l : List ByteArray) : Option Bool := if l.length ≤ 30 then (badR k l 0).bind fun r => some (!decide (0 ≤ r)) else some false
theorem impl_namesOk.calls (k : Nat) (A0 : Option Addr) (c0 : Nat) (l : List ByteArray) (r : Bool) (w : World) (hr : Kd.C Kd.string w A0 l.length l) (hc0 : l.length ≤ c0) (h : impl_namesOk.f k l = some r) :
  Calls Tryz.prog 37 #[.slice A0 l.length c0] w fun e w' => e = .returned (.bool r) ∧ Below w.heap.size w w' := by
 unfold impl_namesOk.f at h
 split at h
 case isTrue hl =>
  replace h := bA h
  obtain ⟨i, A1, h⟩ := h
  obtain rfl := Option.some.inj h
  have hc := namesAny.calls k A0 c0 l i w hr (by omega) A1.out
  have hlz : decide ((l.length : Int) ≤ 30) = true := decide_eq_true (by omega)
  clear hr h hl hc0
  go_enter Tryz.func37, Tryz.ntmps37
  go_wp2_with (go_at_call 64; refine hc.mono ?_; rintro e w1 ⟨rfl, hb⟩)
  go_ret
  exact ⟨rfl, hb⟩
 case isFalse hl =>
  obtain rfl := Option.some.inj h
  have hlz : decide ((l.length : Int) ≤ 30) = false := decide_eq_false (by omega)
  clear hr h hl hc0
  go_enter Tryz.func37, Tryz.ntmps37
  go_wp2
  go_ret
  exact ⟨rfl, Below.refl _ _⟩
/-! ### impl_copyInode: function 71 -/
def impl_copyInode.f (a0_0 : Int) (a0_1 : Int) (a0_2 : Int) (l0_3 : List Int) (l0_4 : List (S65)) (l0_5 : List (S71)) : Option (Int × Int × Int × List Int × (List (S65)) × (List (S71))) := (slices_Clone_byte_byte.f l0_3).bind fun t131 => ((slices_Clone_Ent.f l0_4).bind fun t134 => ((slices_Clone_Attr.f l0_5).bind fun t137 => (some (a0_0, a0_1, a0_2, t131, t134, t137))))
set_option maxHeartbeats 8000000 in
set_option maxRecDepth 100000 in
theorem impl_copyInode.calls (a0_0 : Int) (a0_1 : Int) (a0_2 : Int) (A0_3 : Option Addr) (c0_3 : Nat) (l0_3 : List Int) (A0_4 : Option Addr) (c0_4 : Nat) (l0_4 : List (S65)) (A0_5 : Option Addr) (c0_5 : Nat) (l0_5 : List (S71)) (r1 : Int) (r2 : Int) (r3 : Int) (r4 : List Int) (r5 : List (S65)) (r6 : List (S71)) (w : World) (hr0_3 : Kd.C (Kd.int .u8) w A0_3 l0_3.length l0_3) (hc0_3 : l0_3.length ≤ c0_3) (hr0_4 : Kd.C k65 w A0_4 l0_4.length l0_4) (hc0_4 : l0_4.length ≤ c0_4) (hr0_5 : Kd.C k71 w A0_5 l0_5.length l0_5) (hc0_5 : l0_5.length ≤ c0_5) (h : impl_copyInode.f a0_0 a0_1 a0_2 l0_3 l0_4 l0_5 = some (r1, r2, r3, r4, r5, r6)) :
  Calls Tryz.prog 71 #[.agg #[.int .i64 a0_0, .int .i64 a0_1, .int .i64 a0_2, .slice A0_3 l0_3.length c0_3, .slice A0_4 l0_4.length c0_4, .slice A0_5 l0_5.length c0_5]] w fun e w' => ∃ v3_ v4_ v5_ : Value, e = .returned (.agg #[.int .i64 r1, .int .i64 r2, .int .i64 r3, v3_, v4_, v5_]) ∧ Kd.R (Kd.int .u8) 5 w' w.heap.size (fun _ => True) v3_ r4 ∧ Kd.R k65 65 w' w.heap.size (fun _ => True) v4_ r5 ∧ Kd.R k71 71 w' w.heap.size (fun _ => True) v5_ r6 ∧ Below w.heap.size w w' := by
 have hu51 := Tryz.underlying51
 have HR0_3 := Aside0.mk hr0_3
 have HC0_3 := Aside0.mk hc0_3
 clear hr0_3 hc0_3
 have HR0_4 := Aside0.mk hr0_4
 have HC0_4 := Aside0.mk hc0_4
 clear hr0_4 hc0_4
 have HR0_5 := Aside0.mk hr0_5
 have HC0_5 := Aside0.mk hc0_5
 clear hr0_5 hc0_5
 have HB := Aside0.mk (Below.refl w.heap.size w)
 unfold impl_copyInode.f at h
 have H := h
 clear h
 replace H := bA H
 obtain ⟨t131, A2, H⟩ := H
 try dsimp only at H
 replace H := bA H
 obtain ⟨t134, A3, H⟩ := H
 try dsimp only at H
 replace H := bA H
 obtain ⟨t137, A4, H⟩ := H
 try dsimp only at H
 simp only [Option.some.injEq, Prod.mk.injEq] at H
 obtain ⟨rfl, rfl, rfl, rfl, rfl, rfl⟩ := H
 go_enter Tryz.func71, Tryz.ntmps71
 go_wp2_with (first | ((with_reducible refine gate_dst (N := 1) rfl ?_); refine bx_ 1 #[.int .i64 a0_0, .int .i64 a0_1, .int .i64 a0_2, .slice A0_3 l0_3.length c0_3, .slice A0_4 l0_4.length c0_4, .slice A0_5 l0_5.length c0_5] 51 ?_; intro gb129 hg w5 hbox hb; have BK129 := Aside0.mk (hbox); have GW129 := gs_ hg; replace HB := Aside0.mk (below_step oB hb); clear hb hbox hg) | ((with_reducible refine gate_dst (N := 2) rfl ?_); refine bx_ 2 #[.int .i64 0, .int .i64 0, .int .i64 0, .slice none 0 0, .slice none 0 0, .slice none 0 0] 51 ?_; intro gb130 hg w6 hbox hb; have BK130 := Aside0.mk (hbox); have GW130 := gs_ hg; have NB129_130 := nl_ hg BK129; have NB130_129 := nr_ hg BK129; replace BK129 := kb_ BK129 hb; replace HB := Aside0.mk (below_step oB hb); clear hb hbox hg; have hnb7 := NB129_130.out; have hnc7 := NB130_129.out; obtain ⟨⟨_, _, _, _, _, _⟩, _, _, _, _, _, _⟩ := z6 BK129) | ((with_reducible refine gate_callee (f := 51) rfl ?_); refine gl_ 5 Tryz.func51 (slices_Clone_byte_byte.calls _ _ l0_3 t131 _ (kC HR0_3) HC0_3.out A2.out) ?_; rintro e w9 ⟨v132, rfl, ho0, hb⟩; refine ⟨_, rfl, ?_⟩; have HO133 := Aside0.mk (Kd.R_lower ho0 (below_size oB)); replace BK129 := kb_ BK129 hb; replace BK130 := kb_ BK130 hb; replace HB := Aside0.mk (below_step oB hb); obtain ⟨Ao10, co10, eo10⟩ := Kd.R_slice HO133.out; subst eo10; obtain ⟨⟨_, _, _, _, _, _⟩, _, _, _, _, _, _⟩ := z6 BK129) | ((with_reducible refine gate_callee (f := 82) rfl ?_); refine gl_ 9 Tryz.func82 (slices_Clone_Ent.calls _ _ l0_4 t134 _ ?side1 HC0_4.out A3.out) ?_; (case side1 => exact Kd.C_below HR0_4.out oB); rintro e w12 ⟨v135, rfl, ho0, hb⟩; refine ⟨_, rfl, ?_⟩; have HO136 := Aside0.mk (Kd.R_lower ho0 (below_size oB)); replace HO133 := beR1 HO133 BK129 hb; replace BK129 := kp_ #[.int .i64 a0_0, .int .i64 a0_1, .int .i64 a0_2, .slice Ao10 t131.length co10, .slice A0_4 l0_4.length c0_4, .slice A0_5 l0_5.length c0_5] BK129 hb; replace BK130 := kb_ BK130 hb; replace HB := Aside0.mk (below_step oB hb); (try clear hk); obtain ⟨Ao13, co13, eo13⟩ := Kd.R_slice HO136.out; subst eo13; obtain ⟨⟨_, _, _, _, _, _⟩, _, _, _, _, _, _⟩ := z6 BK129) | ((with_reducible refine gate_callee (f := 95) rfl ?_); refine gl_ 13 Tryz.func95 (slices_Clone_Attr.calls _ _ l0_5 t137 _ ?side1 HC0_5.out A4.out) ?_; (case side1 => exact Kd.C_below HR0_5.out oB); rintro e w15 ⟨v138, rfl, ho0, hb⟩; refine ⟨_, rfl, ?_⟩; have HO139 := Aside0.mk (Kd.R_lower ho0 (below_size oB)); replace HO133 := beR1 HO133 BK129 hb; replace HO136 := beR1 HO136 BK129 hb; replace BK129 := kp_ #[.int .i64 a0_0, .int .i64 a0_1, .int .i64 a0_2, .slice Ao10 t131.length co10, .slice Ao13 t134.length co13, .slice A0_5 l0_5.length c0_5] BK129 hb; replace BK130 := kb_ BK130 hb; replace HB := Aside0.mk (below_step oB hb); (try clear hk); obtain ⟨Ao16, co16, eo16⟩ := Kd.R_slice HO139.out; subst eo16; obtain ⟨⟨_, _, _, _, _, _⟩, _, _, _, _, _, _⟩ := z6 BK129; obtain ⟨⟨_, _, _, _, _, _⟩, _, _, _, _, _, _⟩ := z6 BK130))
 refine bodyPost_ret (results_cell_row rfl _ _ gb130 51 #[.int .i64 a0_0, .int .i64 a0_1, .int .i64 a0_2, .slice Ao10 t131.length co10, .slice Ao13 t134.length co13, .slice Ao16 t137.length co16] (0, 0) _ rfl (oP BK130) Tryz.underlying51 rfl (by kernel_rfl)) rfl ?_
 exact ⟨_, _, _, oE, by (with_reducible repeat (first | apply Kd.R_alloc | apply Kd.R_drewN | apply Kd.R_drew)); exact Kd.R_mono (Kd.R_far (p := ⟨gb130, 5, none⟩) (Kd.R_far (p := ⟨gb130, 4, none⟩) (Kd.R_far (p := ⟨gb130, 3, none⟩) (Kd.R_far (p := ⟨gb130, 2, none⟩) (Kd.R_far (p := ⟨gb130, 1, none⟩) (Kd.R_far (p := ⟨gb130, 0, none⟩) (Kd.R_far (p := ⟨gb129, 5, none⟩) (Kd.R_types (Kd.R_types HO133.out BK129.out (by decide)) BK130.out (by decide)) (fun _ hk => hk.1.2) (.slice Ao16 t137.length co16)) (fun _ hk => hk.2) (.int .i64 a0_0)) (fun _ hk => hk.2) (.int .i64 a0_1)) (fun _ hk => hk.2) (.int .i64 a0_2)) (fun _ hk => hk.2) (.slice Ao10 t131.length co10)) (fun _ hk => hk.2) (.slice Ao13 t134.length co13)) (fun _ hk => hk.2) (.slice Ao16 t137.length co16)) (fun _ hk => trivial), by (with_reducible repeat (first | apply Kd.R_alloc | apply Kd.R_drewN | apply Kd.R_drew)); exact Kd.R_mono (Kd.R_far (p := ⟨gb130, 5, none⟩) (Kd.R_far (p := ⟨gb130, 4, none⟩) (Kd.R_far (p := ⟨gb130, 3, none⟩) (Kd.R_far (p := ⟨gb130, 2, none⟩) (Kd.R_far (p := ⟨gb130, 1, none⟩) (Kd.R_far (p := ⟨gb130, 0, none⟩) (Kd.R_far (p := ⟨gb129, 5, none⟩) (Kd.R_types (Kd.R_types HO136.out BK129.out (by decide)) BK130.out (by decide)) (fun _ hk => hk.1.2) (.slice Ao16 t137.length co16)) (fun _ hk => hk.2) (.int .i64 a0_0)) (fun _ hk => hk.2) (.int .i64 a0_1)) (fun _ hk => hk.2) (.int .i64 a0_2)) (fun _ hk => hk.2) (.slice Ao10 t131.length co10)) (fun _ hk => hk.2) (.slice Ao13 t134.length co13)) (fun _ hk => hk.2) (.slice Ao16 t137.length co16)) (fun _ hk => trivial), by (with_reducible repeat (first | apply Kd.R_alloc | apply Kd.R_drewN | apply Kd.R_drew)); exact Kd.R_mono (Kd.R_far (p := ⟨gb130, 5, none⟩) (Kd.R_far (p := ⟨gb130, 4, none⟩) (Kd.R_far (p := ⟨gb130, 3, none⟩) (Kd.R_far (p := ⟨gb130, 2, none⟩) (Kd.R_far (p := ⟨gb130, 1, none⟩) (Kd.R_far (p := ⟨gb130, 0, none⟩) (Kd.R_far (p := ⟨gb129, 5, none⟩) (Kd.R_types (Kd.R_types HO139.out BK129.out (by decide)) BK130.out (by decide)) (fun _ hk => hk.1.2) (.slice Ao16 t137.length co16)) (fun _ hk => hk.2) (.int .i64 a0_0)) (fun _ hk => hk.2) (.int .i64 a0_1)) (fun _ hk => hk.2) (.int .i64 a0_2)) (fun _ hk => hk.2) (.slice Ao10 t131.length co10)) (fun _ hk => hk.2) (.slice Ao13 t134.length co13)) (fun _ hk => hk.2) (.slice Ao16 t137.length co16)) (fun _ hk => trivial), oB⟩

end Go.Proofs.YtkcfmbggdkkfeaaGreatDoor.P
