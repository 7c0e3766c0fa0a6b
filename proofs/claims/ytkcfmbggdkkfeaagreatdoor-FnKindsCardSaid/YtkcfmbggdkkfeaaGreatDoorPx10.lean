-- By this session's own program (wip/myprint.py) out of the translation; Lean checks it.
import Derived.Test.YtkcfmbggdkkfeaaGreatDoorPx0
import Derived.Test.YtkcfmbggdkkfeaaGreatDoorPx8
namespace Go.Proofs.YtkcfmbggdkkfeaaGreatDoor.P
open Go.RowKit Go.Proofs.YtkcfmbggdkkfeaaGreatDoorW.PrintWords Go.Proofs.YtkcfmbggdkkfeaaGreatDoorW.PrintLast Go.Proofs.YtkcfmbggdkkfeaaGreatDoorW.PrintMore
attribute [local go_sem] max2_int min2_int max_two min_two max_three min_three max_four min_four   -- for this text's walks alone
set_option linter.unusedVariables false
set_option linter.unusedSimpArgs false

/-! ### slices_Insert_Ent: function 81 -/
/-- copy of elements of several cells. -/
theorem run_copyZEnt {P : Program} (w : World) (dT sT ty elem : TypeId) (b o dLen dCap : Nat) (a : Addr) (sLen sCap n : Nat) (cs : List Value)
  (hu : P.underlying dT = some (.slice elem)) (hs : (P.info? elem).map (·.size) = some 2) (hm : Nat.min sLen dLen = n) (hn : cs.length = n * 2)
  (hsrc : ∀ j v, cs[j]? = some v → w.cell? (a.add j) = some v) (hc : ∀ j, j < cs.length → (w.cell? ⟨b, o + j, none⟩).isSome = true) (hf : ∀ j, j < cs.length → w.frozen? ⟨b, o + j, none⟩ = false) (h1 : ∀ v ∈ cs, v.oneCell' = true) :
  (Builtin.copy_ #[dT, sT] ty #[.slice (some ⟨b, o, none⟩) dLen dCap, .slice (some a) sLen sCap]).run P w = .ok (goInt n) (w.setCells b o cs) := by
 have hl := run_loadCells_list (P := P) w a cs hsrc
 have hst := run_storeCells_cells (P := P) b o cs 0 w (by simpa using hc) (by simpa using hf) h1
 cases hq : P.info? elem with
 | none => simp [hq] at hs
 | some i =>
  have hi : i.size = 2 := by simpa [hq] using hs
  simp [Builtin.copy_, run_underlying hu, Builtin.lenOf, Builtin.firstCells, sizeOf, typeInfo, hq, hi, hm, ← hn, hl, hst]
theorem wpList_copyZEnt {P : Program} (w : World) {ops : Array Oper} {rest : List Oper} {o : Oper} {a : Act} {Q : Exit → Act → World → Prop} (hgd : o.guard = none) (d s : Operand) (t t' : TypeId)
  (ho : o.op = .call { callee := .builtin .copy, args := #[d, s], argTypes := #[t, t'] }) (v u : Value) (hd : a.eval d = v) (hs : a.eval s = u) {v' : Value} {w' : World}
  (hr : (Builtin.copy_ #[t, t'] o.type #[v, u]).run P w = .ok v' w') (h : wpList P ops Q rest (a.put o.dst v') w') : wpList P ops Q (o :: rest) a w :=
 wpList_plain hgd fun K hK => by
  unfold Oper.wp execOp
  simp only [ho, resolve, invoke, builtin, Sem.run_bind, Sem.run_pure, Result.andThen_ok, List.map_toArray, List.map_cons, List.map_nil, hd, hs, hr]
  exact hK _ _ h
theorem step_copyZEnt {P : Program} {ops : Array Oper} {o : Oper} {a : Act} {w : World} {K : Act → World → Prop} {Q : Exit → Act → World → Prop} {E : Prop}
  (hg : o.guard = none) (d x : Operand) (dT sT : TypeId) (hop : o.op = Op.call { callee := Callee.builtin Builtin.copy, args := #[d, x], argTypes := #[dT, sT] })
  (v u : Value) (hd : a.eval d = v) (hx : a.eval x = u) {v' : Value} {w' : World} (hr : (Builtin.copy_ #[dT, sT] o.type #[v, u]).run P w = .ok v' w') (hK : K (a.put o.dst v') w') :
  if Region.wanted o (yielded ops a.tmps) = true then Oper.wp P o a w K Q else E := by
 have hw : Region.wanted o (yielded ops a.tmps) = true := by simp [Region.wanted, hg]
 rw [if_pos hw]
 unfold Oper.wp
 simp [execOp, hop, resolve, invoke, builtin, hd, hx, hr, Result.andThen]
 exact hK
set_option maxHeartbeats 4000000 in
set_option maxRecDepth 100000 in
theorem insEnt_shift.calls (g n c i vb : Nat) (cur : Array Value) (inner vs : List Value) (w : World) (hi : i < n) (hroom : n + 1 ≤ c) (hc63 : c ≤ 9223372036854775807) (hvb : vb ≠ g)
  (hb : w.heap[g]? = some (.cells cur 65 (0, 0))) (hcs : cur.size = c * 2) (hin : cur.toList.take (n * 2) = inner) (hv : w.heap[vb]? = some (.cells vs.toArray 65 (0, 0))) (hvl : vs.length = 2)
  (h1c : ∀ u ∈ inner, u.oneCell' = true) (h1v : ∀ u ∈ vs, u.oneCell' = true) :
  Calls Tryz.prog 81 #[.slice (some ⟨g, 0, none⟩) n c, .int .i64 i, .slice (some ⟨vb, 0, none⟩) 1 1] w fun e w' =>
   e = .returned (.slice (some ⟨g, 0, none⟩) (n + 1) c) ∧ w' = (w.drew.setCells g ((i + 1) * 2) (inner.drop (i * 2))).setCells g (i * 2) vs := by
 have hu := Tryz.underlying48
 have mixed : Tryz.prog.follows .mixedOrders = true := by kernel_rfl
 have hz1 : ¬ ((1 : Int) = 0) := by omega
 have hz2 : ¬ ((i : Int) = (n : Int)) := by omega
 have hsz : (Tryz.prog.info? 65).map (·.size) = some 2 := by kernel_rfl
 have hil : inner.length = n * 2 := by rw [← hin, List.length_take, Array.length_toList]; omega
 have hdl : (inner.drop (i * 2)).length = (n - i) * 2 := by rw [List.length_drop, hil]; omega
 have hcur : ∀ j, w.cell? ⟨g, j, none⟩ = cur[j]? := fun j => blk_cell hb j
 have hcell : ∀ j u, inner[j]? = some u → w.cell? ⟨g, j, none⟩ = some u := fun j u hj => by
  rw [hcur, ← hj, ← hin, List.getElem?_take]
  have : j < inner.length := (List.getElem?_eq_some_iff.1 hj).1
  rw [if_pos (by omega), Array.getElem?_toList]
 have hsp : ∀ j, j < (n + 1) * 2 → (w.cell? ⟨g, j, none⟩).isSome = true := fun j hj => by rw [hcur, Array.getElem?_eq_getElem (by omega)]; rfl
 have hfz : ∀ j, w.frozen? ⟨g, j, none⟩ = false := fun j => blk_frozen hb j
 have hvc : ∀ j u, vs[j]? = some u → w.cell? ⟨vb, j, none⟩ = some u := fun j u hj => by rw [blk_cell hv j, List.getElem?_toArray, hj]
 have hov : ∀ lb cb, (callFunc 111 #[.slice (some ⟨vb, 0, none⟩) 1 1, .slice (some ⟨g, (i + 1) * 2, none⟩) lb cb]).run Tryz.prog w = .ok (.value (.bool false)) w := fun lb cb => by
  rw [run_callFunc_extern Tryz.func111 (by kernel_rfl) (by kernel_rfl) (by kernel_rfl) (e := Extern.SlicesOverlaps.overlaps #[48, 48] #[4]) (by kernel_rfl),
   Lib.run_overlaps_apart w 48 4 65 Tryz.underlying48 2 Tryz.sizeOf65 ⟨vb, 0, none⟩ ⟨g, (i + 1) * 2, none⟩ 1 1 lb cb hvb 65 65 vs.length cur.size (by simp [World.shape?, hv]) (by simp [World.shape?, hb]) (by omega) (blk_frozen hv 0) (blk_frozen hv _)]
  rfl
 have hw1 : IntKind.i64.wrap ((i : Int) + (1 : Int)) = (i : Int) + (1 : Int) := by rw [IntKind.wrap_i64]; omega
 have hw2 : IntKind.i64.wrap ((n : Int) + (1 : Int)) = (n : Int) + (1 : Int) := by rw [IntKind.wrap_i64]; omega
 have hb1 : (0 : Int) ≤ (i : Int) + (1 : Int) := by omega
 have hin' : i ≤ n := by omega
 have htn : ((i : Int) + (1 : Int)).toNat = i + 1 := by omega
 have htn2 : ((n : Int) + (1 : Int)).toNat = n + 1 := by omega
 have hb2 : ¬ (c = i + 1) := by omega
 have hb3 : (i : Int) ≤ (n : Int) + (1 : Int) := by omega
 have hb4 : ¬ (c = i) := by omega
 have hcp1 : ∀ ty dl dc sl sc, dl = n - i → sl = n + 1 - i → (Builtin.copy_ #[48, 48] ty #[.slice (some ⟨g, (i + 1) * 2, none⟩) dl dc, .slice (some ⟨g, i * 2, none⟩) sl sc]).run Tryz.prog w.drew = .ok (goInt ((n - i : Nat) : Int)) (w.drew.setCells g ((i + 1) * 2) (inner.drop (i * 2))) := fun ty dl dc sl sc hdl_ hsl_ =>
  run_copyZEnt w.drew _ _ ty 65 g ((i + 1) * 2) dl dc ⟨g, i * 2, none⟩ sl sc (n - i) (inner.drop (i * 2)) Tryz.underlying48 hsz (by simp only [Nat.min_def]; split <;> omega) hdl
   (fun j v hj => by rw [Addr.add_lit]; exact hcell (i * 2 + j) v (by rwa [List.getElem?_drop] at hj))
   (fun j hj => hsp _ (by omega)) (fun j hj => hfz _) (fun v hv => h1c v (List.mem_of_mem_drop hv))
 obtain ⟨W1, hW1⟩ : ∃ W1, W1 = w.drew.setCells g ((i + 1) * 2) (inner.drop (i * 2)) := ⟨_, rfl⟩
 obtain ⟨cur1, hh1, hs1, _⟩ := setCells_row (inner.drop (i * 2)) ((i + 1) * 2) w.drew cur hb (by omega)
 have hcp2 : ∀ (W : World), W.heap = W1.heap → ∀ ty dc, (Builtin.copy_ #[48, 48] ty #[.slice (some ⟨g, i * 2, none⟩) (n + 1 - i) dc, .slice (some ⟨vb, 0, none⟩) 1 1]).run Tryz.prog W = .ok (goInt 1) (W.setCells g (i * 2) vs) := fun W hWh ty dc =>
  run_copyZEnt W _ _ ty 65 g (i * 2) (n + 1 - i) dc ⟨vb, 0, none⟩ 1 1 1 vs Tryz.underlying48 hsz (by simp only [Nat.min_def]; split <;> omega) (by omega)
   (fun j v hj => by
    rw [Addr.add_lit, Nat.zero_add]
    rw [show W.cell? ⟨vb, j, none⟩ = w.cell? ⟨vb, j, none⟩ from by rw [blk_cell (w := W) (g := vb) (cs := vs.toArray) (t := 65) (by rw [hWh, hW1, setCells_far _ _ _ hvb]; exact hv) j, blk_cell hv j]]
    exact hvc j v hj)
   (fun j hj => by rw [blk_cell (w := W) (g := g) (cs := cur1) (t := 65) (by rw [hWh, hW1]; exact hh1), Array.getElem?_eq_getElem (by omega)]; rfl) (fun j hj => blk_frozen (w := W) (g := g) (cs := cur1) (t := 65) (by rw [hWh, hW1]; exact hh1) _) h1v
 rw [← hW1] at hcp1
 go_enter Tryz.func81, Tryz.ntmps81
 go_wp2_with (simp only [hov])
 go_region_law_o (refine step_copyZEnt rfl _ _ 48 48 rfl (.slice (some ⟨g, (i + 1) * 2, none⟩) (n + 1 - (i + 1)) (c - (i + 1))) (.slice (some ⟨g, i * 2, none⟩) (n + 1 - i) (c - i)) (by simp [Act.eval, Act.put]) (by simp [Act.eval, Act.put]) (hcp1 _ _ _ _ _ (by omega) (by omega)) ?_)
 go_wp2_with (at_builtin; refine wpList_copyZEnt _ rfl _ _ 48 48 rfl _ _ rfl rfl (hcp2 _ rfl _ _) ?_)
 go_ret
 first | exact ⟨rfl, rfl⟩ | exact ⟨rfl, by rw [hW1]⟩
theorem infoEnt : (Tryz.prog.info? 65).map (fun i => (i.zero, i.size, i.bytes)) = some (some (Value.agg #[.string ⟨#[]⟩, .int .i64 0]), 2, 24) := by kernel_rfl
theorem oneEnt (w : World) (vb : Nat) (vs : List Value) (hv : w.heap[vb]? = some (.cells vs.toArray 65 (0, 0))) (hvl : vs.length = 2) (h1v : ∀ u ∈ vs, u.oneCell' = true) : ReadsRow ((Kd.raw 2).K w) 2 w (some ⟨vb, 0, none⟩) 1 [vs] := by
 refine ⟨rfl, by decide, fun _ => ⟨⟨vb, 0, none⟩, rfl, fun j p hj => ?_⟩⟩
 cases j with
 | zero =>
  obtain rfl : vs = p := by simpa using hj
  refine ⟨vs, hvl, ⟨rfl, hvl, h1v⟩, fun i u hu => ?_⟩
  rw [Nat.zero_mul, Nat.zero_add, Addr.add_lit, Nat.zero_add, blk_cell hv i, List.getElem?_toArray, hu]
 | succ j => simp at hj
set_option maxHeartbeats 4000000 in
set_option maxRecDepth 100000 in
theorem insEnt_end.calls (A : Option Addr) (n c vb base : Nat) (rows : List (List Value)) (vs : List Value) (w0 w : World) (hn : rows.length = n)
  (hr : (Kd.raw 2).R 65 w base (fun k => some k = (Value.slice A n c).ownBlock ∨ w.heap.size ≤ k) (.slice A n c) rows) (hv : w.heap[vb]? = some (.cells vs.toArray 65 (0, 0))) (hvl : vs.length = 2) (h1v : ∀ u ∈ vs, u.oneCell' = true)
  (hB : Below base w0 w) (hbase : base ≤ w.heap.size) (hbig : (n + 1) * 24 ≤ 140737488355328) :
  Calls Tryz.prog 81 #[.slice A n c, .int .i64 n, .slice (some ⟨vb, 0, none⟩) 1 1] w fun e w' => ∃ v', e = .returned v' ∧ (Kd.raw 2).R 65 w' base (fun k => some k = (Value.slice A n c).ownBlock ∨ w.heap.size ≤ k) v' (rows ++ [vs]) ∧
   Below base w0 w' ∧ w.grownBy w' (Value.slice A n c).ownBlock ∧ (v'.ownBlock = (Value.slice A n c).ownBlock ∨ ∃ b, v'.ownBlock = some b ∧ w.heap.size ≤ b) := by
 have hu := Tryz.underlying48
 have hz1 : ¬ ((1 : Int) = 0) := by omega
 have ho := oneEnt w vb vs hv hvl h1v
 have hr' := hr
 obtain ⟨hok, inner, hown, hrep⟩ := hr'
 go_enter Tryz.func81, Tryz.ntmps81
 rcases A with _ | ad
 ·obtain ⟨rfl, rfl⟩ : n = 0 ∧ c = 0 := by
   rcases hown.2 with ⟨h1, h2⟩ | ⟨g', cap', cur, h1, _⟩
   ·injection h1 with _ a b; exact ⟨a, b⟩
   ·cases h1
  go_wp2_with (at_builtin; refine Kd.R_append_rows (Kd.raw 2) (Rr := (Kd.raw 2).K w) (w0 := w0) base rfl _ _ 48 65 (Value.agg #[.string ⟨#[]⟩, .int .i64 0]) 24 rfl hu infoEnt rfl (by decide) (by decide) _ rows [vs] (some ⟨vb, 0, none⟩) 1 1 _ (fun _ => False) rfl rfl hr ho (fun x cs h => h) (fun _ h => h.elim) (fun k hk => .inr hk) hB hbase (by omega) ?_; intro v1 w1 h1 h2 h3 h4)
  go_ret
  exact ⟨_, rfl, h1, h2, h3, h4⟩
 ·obtain ⟨g, rfl⟩ := Kd.R_head hr
  have hnc : n ≤ c := (Kd.R_reads' hr).2.1
  go_wp2_with (at_builtin; refine Kd.R_append_rows (Kd.raw 2) (Rr := (Kd.raw 2).K w) (w0 := w0) base rfl _ _ 48 65 (Value.agg #[.string ⟨#[]⟩, .int .i64 0]) 24 rfl hu infoEnt rfl (by decide) (by decide) _ rows [vs] (some ⟨vb, 0, none⟩) 1 1 _ (fun _ => False) rfl rfl hr ho (fun x cs h => h) (fun _ h => h.elim) (fun k hk => .inr hk) hB hbase (by omega) ?_; intro v1 w1 h1 h2 h3 h4)
  all_goals (go_ret; exact ⟨_, rfl, h1, h2, h3, h4⟩)
set_option maxHeartbeats 4000000 in
set_option maxRecDepth 100000 in
theorem insEnt_grow.calls (g n c i vb : Nat) (cur : Array Value) (inner vs : List Value) (w : World) (hi : i < n) (hnc : n ≤ c) (hroom : c < n + 1) (hbig : (n + 1) * 24 ≤ 140737488355328)
  (hb : w.heap[g]? = some (.cells cur 65 (0, 0))) (hcs : cur.size = c * 2) (hin : cur.toList.take (n * 2) = inner) (hv : w.heap[vb]? = some (.cells vs.toArray 65 (0, 0))) (hvl : vs.length = 2)
  (h1c : ∀ u ∈ inner, u.oneCell' = true) (h1v : ∀ u ∈ vs, u.oneCell' = true) :
  Calls Tryz.prog 81 #[.slice (some ⟨g, 0, none⟩) n c, .int .i64 i, .slice (some ⟨vb, 0, none⟩) 1 1] w fun e w' => ∃ (G : Nat) (ROW : Array Value), n + 1 ≤ G ∧ G ≤ 9223372036854775807 ∧ ROW.size = G * 2 ∧ ROW.toList.take (i * 2) = inner.take (i * 2) ∧
   e = .returned (.slice (some ⟨w.heap.size, 0, none⟩) (n + 1) G) ∧ w' = (((w.alloc (.cells ROW 65)).drew.setCells w.heap.size (i * 2) vs).drew).setCells w.heap.size ((i + 1) * 2) (inner.drop (i * 2)) := by
 have hu := Tryz.underlying48
 have mixed : Tryz.prog.follows .mixedOrders = true := by kernel_rfl
 obtain ⟨i0, hi0, hz0, hzs, hzb⟩ := info_parts infoEnt
 have hsz : (Tryz.prog.info? 65).map (·.size) = some 2 := by rw [hi0]; simp [hzs]
 have hz1 : ¬ ((1 : Int) = 0) := by omega
 have hz2 : ¬ ((i : Int) = (n : Int)) := by omega
 have hz3 : (c : Int) < (n : Int) + (1 : Int) := by omega
 have hil : inner.length = n * 2 := by rw [← hin, List.length_take, Array.length_toList]; omega
 have hdl : (inner.drop (i * 2)).length = (n - i) * 2 := by rw [List.length_drop, hil]; omega
 have hgw : g < w.heap.size := blk_lt hb
 have hvw : vb < w.heap.size := blk_lt hv
 have hcell : ∀ j u, inner[j]? = some u → w.cell? ⟨g, j, none⟩ = some u := fun j u hj => by
  rw [blk_cell hb j, ← hj, ← hin, List.getElem?_take]
  have : j < inner.length := (List.getElem?_eq_some_iff.1 hj).1
  rw [if_pos (by omega), Array.getElem?_toList]
 have hvc : ∀ j u, vs[j]? = some u → w.cell? ⟨vb, j, none⟩ = some u := fun j u hj => by rw [blk_cell hv j, List.getElem?_toArray, hj]
 have hkk : (n : Int) + (1 : Int) - (i : Int) = ((n + 1 - i : Nat) : Int) := by omega
 have hik : i + (n + 1 - i) = n + 1 := by omega
 have hold : (Builtin.firstCells i0.size i (.slice (some ⟨g, 0, none⟩) i c)).run Tryz.prog w.drew = .ok (inner.take (i * 2)).toArray w.drew := by
  rw [hzs]
  exact run_firstCells_some w.drew 2 i ⟨g, 0, none⟩ i c (inner.take (i * 2)) (by rw [List.length_take]; omega) (fun j v hj => by
   rw [Addr.add_lit, Nat.zero_add]
   rw [List.getElem?_take] at hj
   split at hj
   ·exact hcell j v hj
   ·cases hj)
 have hrz : ∀ ty, (Builtin.append_ #[48, 3] ty #[.slice (some ⟨g, 0, none⟩) i c, .int .i64 ((n : Int) + (1 : Int) - (i : Int))]).run Tryz.prog w =
   .ok (.slice (some ⟨w.heap.size, 0, none⟩) (n + 1) (grownCap w (n + 1) c 65)) (w.drew.alloc (.cells ((inner.take (i * 2)).toArray ++ Builtin.zeroCells (Value.agg #[.string ⟨#[]⟩, .int .i64 0]).cells (n + 1 - i) ++ Builtin.zeroCells (Value.agg #[.string ⟨#[]⟩, .int .i64 0]).cells (grownCap w (n + 1) c 65 - (n + 1))) 65)) := fun ty => by
  have h := Lib.run_append_grow_zeros w 48 3 ty 65 i0 _ .i64 .i64 hu Tryz.underlying3 hi0 hz0 (some ⟨g, 0, none⟩) i c (inner.take (i * 2)) hold (n + 1 - i) (by omega) (by omega) (by omega) (by omega) (by rw [hzb]; omega) (by rw [hzb, hik]; exact growslice_fits hroom hbig)
  rw [hik] at h
  rw [hkk]
  exact h
 obtain ⟨G, hG⟩ : ∃ G, G = grownCap w (n + 1) c 65 := ⟨_, rfl⟩
 have hGn : n + 1 ≤ G := by rw [hG]; exact grownCap_ge w _ _ _
 have hG63 : G ≤ 9223372036854775807 := by
  have := grownCap_le_maxLen w (n + 1) c 65 (by unfold maxLen; omega)
  rw [← hG] at this
  unfold maxLen at this
  omega
 obtain ⟨ROW, hROW⟩ : ∃ ROW : Array Value, ROW = (inner.take (i * 2)).toArray ++ Builtin.zeroCells (Value.agg #[.string ⟨#[]⟩, .int .i64 0]).cells (n + 1 - i) ++ Builtin.zeroCells (Value.agg #[.string ⟨#[]⟩, .int .i64 0]).cells (G - (n + 1)) := ⟨_, rfl⟩
 rw [← hG] at hrz
 rw [← hROW] at hrz
 have hzc : (Value.agg #[.string ⟨#[]⟩, .int .i64 0]).cells.size = 2 := rfl
 have hRl : ROW.size = G * 2 := by
  rw [hROW]
  simp only [Array.size_append, List.size_toArray, List.length_take, Builtin.zeroCells, Array.size_map, Array.size_range, hzc]
  omega
 have hRt : ROW.toList.take (i * 2) = inner.take (i * 2) := by
  rw [hROW, Array.toList_append, Array.toList_append, List.append_assoc, List.take_append_of_le_length (by rw [List.length_take]; omega), List.take_of_length_le (by rw [List.length_take]; omega)]
 have hblk : ∀ W : World, W.heap = (w.drew.alloc (.cells ROW 65)).heap → W.heap[w.heap.size]? = some (.cells ROW 65 (0, 0)) := fun W h => by rw [h]; exact blk_new w.drew _
 have hcpA : ∀ (W : World), W.heap = (w.drew.alloc (.cells ROW 65)).heap → ∀ ty dc, (Builtin.copy_ #[48, 48] ty #[.slice (some ⟨w.heap.size, i * 2, none⟩) (n + 1 - i) dc, .slice (some ⟨vb, 0, none⟩) 1 1]).run Tryz.prog W = .ok (goInt 1) (W.setCells w.heap.size (i * 2) vs) := fun W hWh ty dc =>
  run_copyZEnt W _ _ ty 65 w.heap.size (i * 2) (n + 1 - i) dc ⟨vb, 0, none⟩ 1 1 1 vs hu hsz (by simp only [Nat.min_def]; split <;> omega) (by omega)
   (fun j v hj => by
    rw [Addr.add_lit, Nat.zero_add, blk_cell (w := W) (g := vb) (cs := vs.toArray) (t := 65) (by rw [hWh]; exact blk_alloc (blk_drew hv) _) j, List.getElem?_toArray, hj])
   (fun j hj => by rw [blk_cell (hblk W hWh), Array.getElem?_eq_getElem (by omega)]; rfl) (fun j hj => blk_frozen (hblk W hWh) _) h1v
 obtain ⟨cur1, hh1, hs1, _⟩ := setCells_row vs (i * 2) (w.drew.alloc (.cells ROW 65)) ROW (blk_new w.drew _) (by omega)
 have hcpB : ∀ (W : World), W.heap = ((w.drew.alloc (.cells ROW 65)).setCells w.heap.size (i * 2) vs).heap → ∀ ty dl dc sl sc, dl = n - i → sl = n - i → (Builtin.copy_ #[48, 48] ty #[.slice (some ⟨w.heap.size, (i + 1) * 2, none⟩) dl dc, .slice (some ⟨g, i * 2, none⟩) sl sc]).run Tryz.prog W = .ok (goInt ((n - i : Nat) : Int)) (W.setCells w.heap.size ((i + 1) * 2) (inner.drop (i * 2))) := fun W hWh ty dl dc sl sc hdl_ hsl_ =>
  run_copyZEnt W _ _ ty 65 w.heap.size ((i + 1) * 2) dl dc ⟨g, i * 2, none⟩ sl sc (n - i) (inner.drop (i * 2)) hu hsz (by simp only [Nat.min_def]; split <;> omega) hdl
   (fun j v hj => by
    rw [Addr.add_lit]
    have h2 := hcell (i * 2 + j) v (by rwa [List.getElem?_drop] at hj)
    rw [blk_cell hb] at h2
    rw [blk_cell (w := W) (g := g) (cs := cur) (t := 65) (by rw [hWh, setCells_far _ _ _ (by omega)]; exact blk_alloc (blk_drew hb) _)]
    exact h2)
   (fun j hj => by rw [blk_cell (w := W) (g := w.heap.size) (cs := cur1) (t := 65) (by rw [hWh]; exact hh1), Array.getElem?_eq_getElem (by omega)]; rfl) (fun j hj => blk_frozen (w := W) (g := w.heap.size) (cs := cur1) (t := 65) (by rw [hWh]; exact hh1) _) (fun v hv => h1c v (List.mem_of_mem_drop hv))
 have hGi : ¬ (G = i) := by omega
 have hGim : ¬ (G = i + 1) := by omega
 have hci : ¬ (c = i) := by omega
 have hw1 : IntKind.i64.wrap ((i : Int) + (1 : Int)) = (i : Int) + (1 : Int) := by rw [IntKind.wrap_i64]; omega
 have hw2 : IntKind.i64.wrap ((n : Int) + (1 : Int)) = (n : Int) + (1 : Int) := by rw [IntKind.wrap_i64]; omega
 have hw3 : IntKind.i64.wrap ((n : Int) + (1 : Int) - (i : Int)) = (n : Int) + (1 : Int) - (i : Int) := by rw [IntKind.wrap_i64]; omega
 have hb1 : (0 : Int) ≤ (i : Int) + (1 : Int) := by omega
 have hin' : i ≤ n := by omega
 have htn : ((i : Int) + (1 : Int)).toNat = i + 1 := by omega
 have hb3 : (i : Int) ≤ (n : Int) := by omega
 clear hkk hik hold hROW hG hblk hh1 hs1
 go_enter Tryz.func81, Tryz.ntmps81
 go_wp2_with (first
  | (at_builtin; refine Lib.wpList_append_run _ rfl _ _ _ _ rfl _ _ rfl rfl _ _ (hrz _) ?_)
  | (refine wpList_copyZEnt _ rfl _ _ 48 48 rfl _ _ rfl rfl (hcpA _ rfl _ _) ?_))
 go_region_law_o (refine step_copyZEnt rfl _ _ 48 48 rfl (.slice (some ⟨w.heap.size, (i + 1) * 2, none⟩) (n + 1 - (i + 1)) (G - (i + 1))) (.slice (some ⟨g, i * 2, none⟩) (n - i) (c - i)) (by simp [Act.eval, Act.put]) (by simp [Act.eval, Act.put]) (hcpB ((((w.alloc (.cells ROW 65)).drew).setCells w.heap.size (i * 2) vs).drew) (by rfl) _ _ _ _ _ (by omega) (by omega)) ?_)
 go_wp2
 go_ret
 exact ⟨G, ROW, hGn, hG63, hRl, hRt, rfl, rfl⟩
/-- slices.Insert of one element: the row with it. -/
theorem insEnt.calls (A : Option Addr) (n c i vb base : Nat) (ok : Nat → Prop) (rows : List (List Value)) (vs : List Value) (w0 w : World) (hi : i ≤ n) (hn : rows.length = n) (hr : (Kd.raw 2).R 65 w base ok (.slice A n c) rows)
  (hv : w.heap[vb]? = some (.cells vs.toArray 65 (0, 0))) (hvb : some vb ≠ (Value.slice A n c).ownBlock) (hvl : vs.length = 2) (h1v : ∀ u ∈ vs, u.oneCell' = true) (hB : Below base w0 w) (hbase : base ≤ w.heap.size) (hbig : (n + 1) * 24 ≤ 140737488355328) :
  Calls Tryz.prog 81 #[.slice A n c, .int .i64 i, .slice (some ⟨vb, 0, none⟩) 1 1] w fun e w' => ∃ v', e = .returned v' ∧ (Kd.raw 2).R 65 w' base (fun k => some k = (Value.slice A n c).ownBlock ∨ w.heap.size ≤ k) v' (rows.take i ++ [vs] ++ rows.drop i) ∧
   Below base w0 w' ∧ w.grownBy w' (Value.slice A n c).ownBlock ∧ (v'.ownBlock = (Value.slice A n c).ownBlock ∨ ∃ b, v'.ownBlock = some b ∧ w.heap.size ≤ b) := by
 have hr' : (Kd.raw 2).R 65 w base (fun k => some k = (Value.slice A n c).ownBlock ∨ w.heap.size ≤ k) (.slice A n c) rows := ⟨fun k hk => .inl hk.symm, hr.2⟩
 rcases Nat.lt_or_ge i n with hlt | hge
 case inr =>
  obtain rfl : i = n := by omega
  rw [List.take_of_length_le (by omega), List.drop_of_length_le (by omega), List.append_nil]
  exact insEnt_end.calls A i c vb base rows vs w0 w hn hr' hv hvl h1v hB hbase hbig
 case inl =>
 obtain ⟨hok, inner, ⟨hil, hown⟩, hrep⟩ := hr'
 rcases hown with ⟨he, h0⟩ | ⟨g, cap, cur, he, hbg, hh, hnc, hcm, hcs, hin⟩
 ·omega
 injection he with ha hnn hcc
 subst ha; subst hcc; subst hnn
 rw [show (Kd.raw 2).sz = 2 from rfl] at hil hcs hin hrep
 have h1c : ∀ u ∈ inner, u.oneCell' = true := Kd.reps_one hrep (by decide) (fun p c h => h.2.2)
 have hrI := reps_ins (i := i) hrep (by omega) hvl h1v
 have hgv : vb ≠ g := fun he => hvb (by rw [he]; rfl)
 have hpl : i * 2 ≤ inner.length := by rw [hil]; omega
 have hlen3 : (rows.take i ++ [vs] ++ rows.drop i).length = rows.length + 1 := by simp only [List.length_append, List.length_take, List.length_drop, List.length_singleton]; omega
 rcases Nat.lt_or_ge c (rows.length + 1) with hg | hroom
 ·refine (insEnt_grow.calls g rows.length c i vb cur inner vs w hlt hnc hg hbig hh hcs hin hv hvl h1c h1v).mono ?_
  rintro e w' ⟨G, ROW, hGn, hG63, hRl, hRt, rfl, rfl⟩
  refine ⟨_, rfl, ?_, ?_, grown_alloc_two w _ _ _ _ _ _, .inr ⟨_, rfl, Nat.le_refl _⟩⟩
  ·obtain ⟨c1, k1, k2, k3⟩ := setCells_row (e := 65) vs (i * 2) (w.alloc (.cells ROW 65)).drew ROW (blk_drew (blk_new w _)) (by omega)
   obtain ⟨c2, l1, l2, l3⟩ := setCells_row (inner.drop (i * 2)) ((i + 1) * 2) _ c1 (blk_drew k1) (by rw [List.length_drop, k2, hil, hRl]; omega)
   have hm : G ≤ maxLen := hG63
   rw [hlen3.symm]
   refine rawR_of l1 (by rw [l2, k2, hRl]) (by omega) hm (by omega) (.inr (Nat.le_refl _)) rfl ?_
   rw [l3]
   have := ins_list2 ROW.toList inner vs (i * 2) 2 hvl hpl hRt c1.toList (by rw [Array.length_toList]; omega) k3
   rw [show (i + 1) * 2 = i * 2 + 2 by omega, show (rows.take i ++ [vs] ++ rows.drop i).length * 2 = inner.length + 2 by rw [hlen3, hil]; omega, this]
   exact hrI
  ·exact hB.grown (grown_alloc_two w _ _ _ _ _ none) hbase (fun k e => by cases e)
 ·refine (insEnt_shift.calls g rows.length c i vb cur inner vs w hlt hroom (by unfold maxLen at hcm; omega) hgv hh hcs hin hv hvl h1c h1v).mono ?_
  rintro e w' ⟨rfl, rfl⟩
  refine ⟨_, rfl, ?_, ?_, grown_two w g _ _ _ _, .inl rfl⟩
  ·obtain ⟨c1, k1, k2, k3⟩ := setCells_row (inner.drop (i * 2)) ((i + 1) * 2) w.drew cur (blk_drew hh) (by rw [List.length_drop, hil, hcs]; omega)
   obtain ⟨c2, l1, l2, l3⟩ := setCells_row vs (i * 2) _ c1 k1 (by rw [k2, hcs]; omega)
   rw [hlen3.symm]
   refine rawR_of l1 (by rw [l2, k2, hcs]) (by omega) hcm hbg (.inl rfl) rfl ?_
   rw [l3]
   have := ins_list cur.toList inner vs (i * 2) 2 hvl hpl (by rw [← hin, List.take_take, Nat.min_eq_left (by omega)]) (by rw [Array.length_toList, hcs]; omega) c1.toList (by rw [k3, show (i + 1) * 2 = i * 2 + 2 by omega])
   rw [show (rows.take i ++ [vs] ++ rows.drop i).length * 2 = inner.length + 2 by rw [hlen3, hil]; omega, this]
   exact hrI
  ·exact hB.grown (grown_two w g _ _ _ _) hbase (fun k e => by injection e with e; omega)
/-! ### impl_spot_enter: function 59 -/
def gtS (a b : ByteArray) : Bool := !(Op.bytesLess a.toList b.toList || a.toList == b.toList)
def gtN (s : ByteArray) : List S65 → Nat → Int
 | [], _ => -1
 | x :: l, i => if gtS x.f0 s = true then (i : Int) else gtN s l (i + 1)
theorem entGt1.calls (s a : ByteArray) (b : Int) (B : Nat) (W : World) (hB : B < W.heap.size) (hc : W.cell? ⟨B, 6, none⟩ = some (.string s)) :
  Calls Tryz.prog 80 #[.agg #[.string a, .int .i64 b], .pointer (some ⟨B, 0, none⟩)] W fun e w' => e = .returned (.bool (gtS a s)) ∧ Below W.heap.size W w' := by
 have hne : B ≠ W.heap.size := by omega
 go_enter Tryz.func80, Tryz.ntmps80
 go_wp2
 all_goals (go_ret; exact ⟨by simp_all [gtS], (Below.refl _ W).alloc (Nat.le_refl _) _⟩)
theorem erd_at (l : List S65) (k : Nat) (h : k < l.length) : rd_T65 l (k : Int) = l[k] := by
 simp [rd_T65, List.getD_eq_getElem?_getD, List.getElem?_eq_getElem h]
theorem gtN_hit (s : ByteArray) (l : List S65) (k j : Nat) (h : k < l.length) (hit : gtS (rd_T65 l (k : Int)).f0 s = true) : gtN s (l.drop k) j = (j : Int) := by
 rw [List.drop_eq_getElem_cons h, gtN, if_pos (by rw [← erd_at l k h]; exact hit)]
theorem gtN_miss (s : ByteArray) (l : List S65) (k j : Nat) (h : k < l.length) (hit : gtS (rd_T65 l (k : Int)).f0 s = false) : gtN s (l.drop k) j = gtN s (l.drop (k + 1)) (j + 1) := by
 rw [List.drop_eq_getElem_cons h, gtN, if_neg (by rw [← erd_at l k h, hit]; decide)]
set_option maxHeartbeats 400000 in
set_option maxRecDepth 100000 in
theorem entGt2.calls (s : ByteArray) (A0 : Option Addr) (c0 : Nat) (l : List S65) (B : Nat) (w : World) (hr : k65.C w A0 l.length l) (hB : B < w.heap.size) (hc : w.cell? ⟨B, 6, none⟩ = some (.string s)) (hl : l.length ≤ 9223372036854775807) :
  Calls Tryz.prog 79 #[.slice A0 l.length c0, .func (.func 80) #[] #[.pointer (some ⟨B, 0, none⟩)]] w fun e w' => e = .returned (.int .i64 (gtN s l 0)) ∧ Below w.heap.size w w' := by
 go_enter Tryz.func79, Tryz.ntmps79
 go_wp2
 go_loopg [5, 8] l.length (fun gg _ s8 wr => ∃ kk : Nat, kk ≤ l.length ∧ l.length - kk ≤ gg ∧ s8 = .int .i64 kk ∧ Aside0 (Below w.heap.size w wr) ∧ Aside0 (gtN s l 0 = gtN s (l.drop kk) kk))
 case atStart => exact ⟨0, Nat.zero_le _, by omega, rfl, ⟨Below.refl _ w⟩, ⟨rfl⟩⟩
 case round =>
  obtain ⟨kk, hkk, hg, rfl, BW, A⟩ := hrel
  by_cases hlt : kk < l.length
  ·have hltz : (kk : Int) < (l.length : Int) := by omega
   obtain ⟨ad, e0, h0, h1⟩ := at_T65 (Kd.C_below hr BW.out) (kk : Int) (by omega) hltz
   cases e0
   rw [Int.toNat_natCast] at h0 h1
   have hBw : B < wr.heap.size := Nat.lt_of_lt_of_le hB BW.out.size
   have hcw : wr.cell? ⟨B, 6, none⟩ = some (.string s) := (BW.out.cell (p := ⟨B, 6, none⟩) hB).trans hc
   cases hq : gtS (rd_T65 l (kk : Int)).f0 s with
   | true =>
    go_wp2_with (go_at_call 80; refine (entGt1.calls s _ _ B wr hBw hcw).mono ?_; rintro e w' ⟨rfl, hb'⟩; rw [hq])
    go_ret
    exact ⟨by rw [A.out, gtN_hit s l kk kk hlt hq]; rfl, below_then BW.out BW.out.size hb'⟩
   | false =>
    go_wp2_with (go_at_call 80; refine (entGt1.calls s _ _ B wr hBw hcw).mono ?_; rintro e w' ⟨rfl, hb'⟩; rw [hq])
    go_roundg (l.length - (kk + 1))
    case measure => omega
    case rel => exact ⟨kk + 1, by omega, by omega, by go_num, ⟨below_then BW.out BW.out.size hb'⟩, ⟨by rw [A.out, gtN_miss s l kk kk hlt hq]⟩⟩
  ·have hltz : ¬ (kk : Int) < (l.length : Int) := by omega
   obtain rfl : kk = l.length := by omega
   go_wp2
   go_ret
   exact ⟨by rw [A.out, List.drop_length]; rfl, BW.out⟩
theorem gtN_spec (s : ByteArray) (l : List S65) : ∀ j : Nat, gtN s l j = -1 ∨ ∃ i : Nat, gtN s l j = ((j + i : Nat) : Int) ∧ i < l.length := by
 induction l with
 | nil => intro j; exact .inl rfl
 | cons x l ih =>
  intro j
  rw [gtN]
  split
  ·exact .inr ⟨0, by simp, by simp⟩
  ·rcases ih (j + 1) with h | ⟨i, h, hi⟩
   ·exact .inl h
   ·exact .inr ⟨i + 1, by rw [h]; omega, by simp only [List.length_cons]; omega⟩
def posN (s : ByteArray) (l : List S65) : Nat := if gtN s l 0 < 0 then l.length else (gtN s l 0).toNat
def encE (x : S65) : List Value := [.string x.f0, .int .i64 x.f1]
def impl_spot_enter.f (k : Nat) (a0_0 a0_1 a0_2 : Int) (l0_3 : List Int) (l0_4 : List S65) (l0_5 : List S71) (a0_6 : ByteArray) (l1_0 : List S51) (a1_1 a2 : Int) : Option (List S51 × Int) :=
 (slices_Clone_Ent.f l0_4).bind fun y => if posN a0_6 l0_4 ≤ y.length ∧ (y.length + 1) * 24 ≤ 140737488355328 ∧ l0_4.length ≤ 9223372036854775807 then impl_SetInode.f k l1_0 a1_1 a0_0 a0_1 a0_2 l0_3 (y.take (posN a0_6 l0_4) ++ [⟨a0_6, a2⟩] ++ y.drop (posN a0_6 l0_4)) l0_5 else none
set_option maxHeartbeats 4000000 in
set_option maxRecDepth 100000 in
theorem impl_spot_enter.calls (k : Nat) (a0_0 a0_1 a0_2 : Int) (A0_3 : Option Addr) (c0_3 : Nat) (l0_3 : List Int) (A0_4 : Option Addr) (c0_4 : Nat) (l0_4 : List S65) (A0_5 : Option Addr) (c0_5 : Nat) (l0_5 : List S71) (a0_6 : ByteArray) (A1_0 : Option Addr) (c1_0 : Nat) (l1_0 : List S51) (a1_1 a2 : Int) (r1 : List S51) (r2 : Int) (w : World)
  (hr0_3 : Kd.C (Kd.int .u8) w A0_3 l0_3.length l0_3) (hc0_3 : l0_3.length ≤ c0_3) (hr0_4 : Kd.C k65 w A0_4 l0_4.length l0_4) (hc0_4 : l0_4.length ≤ c0_4) (hr0_5 : Kd.C k71 w A0_5 l0_5.length l0_5) (hc0_5 : l0_5.length ≤ c0_5) (hr1_0 : Kd.C k51 w A1_0 l1_0.length l1_0) (hc1_0 : l1_0.length ≤ c1_0) (h : impl_spot_enter.f k a0_0 a0_1 a0_2 l0_3 l0_4 l0_5 a0_6 l1_0 a1_1 a2 = some (r1, r2)) :
  Calls Tryz.prog 59 #[.agg #[.int .i64 a0_0, .int .i64 a0_1, .int .i64 a0_2, .slice A0_3 l0_3.length c0_3, .slice A0_4 l0_4.length c0_4, .slice A0_5 l0_5.length c0_5, .string a0_6], .agg #[.slice A1_0 l1_0.length c1_0, .int .i64 a1_1], .int .i64 a2] w fun e w' => ∃ v0_ : Value, e = .returned (.agg #[v0_, .int .i64 r2]) ∧ Kd.S k51 51 w' w.heap.size (fun _ => True) v0_ r1 ∧ Below w.heap.size w w' := by
 unfold impl_spot_enter.f at h
 replace h := bA h
 obtain ⟨y, H1, h⟩ := h
 split at h
 case isFalse => cases h
 case isTrue hl =>
 have HPY := Aside0.mk hl.1
 have H24 := Aside0.mk hl.2.1
 have HL4 := Aside0.mk hl.2.2
 obtain ⟨Y, hY⟩ : ∃ Y, Y = (y.take (posN a0_6 l0_4) ++ [(⟨a0_6, a2⟩ : S65)] ++ y.drop (posN a0_6 l0_4)) := ⟨_, rfl⟩
 rw [← hY] at h
 have HY := Aside0.mk hY
 have H2 := Aside0.mk h
 have HR3 := Aside0.mk hr0_3
 have HC3 := Aside0.mk hc0_3
 have HR4 := Aside0.mk hr0_4
 have HC4 := Aside0.mk hc0_4
 have HR5 := Aside0.mk hr0_5
 have HC5 := Aside0.mk hc0_5
 have HR0 := Aside0.mk hr1_0
 have HC0 := Aside0.mk hc1_0
 clear hl h hY hr0_3 hc0_3 hr0_4 hc0_4 hr0_5 hc0_5 hr1_0 hc1_0
 have HB := Aside0.mk (Below.refl w.heap.size w)
 go_enter Tryz.func59, Tryz.ntmps59
 go_upto_if 14 with (first | ((with_reducible refine gate_dst (N := 3) rfl ?_); refine bx_ 3 #[.int .i64 a0_0, .int .i64 a0_1, .int .i64 a0_2, .slice A0_3 l0_3.length c0_3, .slice A0_4 l0_4.length c0_4, .slice A0_5 l0_5.length c0_5, .string a0_6] 84 ?_; intro gb3 hg w1 hbox hb; have BK3 := Aside0.mk hbox; have GW3 := gs_ hg; replace HB := Aside0.mk (below_step oB hb); clear hb hbox hg) | ((with_reducible refine gate_dst (N := 4) rfl ?_); refine bx_ 4 #[.slice A1_0 l1_0.length c1_0, .int .i64 a1_1] 26 ?_; intro gb4 hg w2 hbox hb; have BK4 := Aside0.mk hbox; have GW4 := gs_ hg; have NB34 := nl_ hg BK3; have NB43 := nr_ hg BK3; replace BK3 := kb_ BK3 hb; replace HB := Aside0.mk (below_step oB hb); clear hb hbox hg) | ((with_reducible refine gate_dst (N := 6) rfl ?_); refine bx_ 6 #[.slice none 0 0, .int .i64 0] 26 ?_; intro gb6 hg w3 hbox hb; have BK6 := Aside0.mk hbox; have GW6 := gs_ hg; have NB36 := nl_ hg BK3; have NB63 := nr_ hg BK3; have NB46 := nl_ hg BK4; have NB64 := nr_ hg BK4; replace BK3 := kb_ BK3 hb; replace BK4 := kb_ BK4 hb; replace HB := Aside0.mk (below_step oB hb); clear hb hbox hg; obtain ⟨⟨_, _, _, _, _, _, _⟩, _, _, _, _, _, _, _⟩ := z7 BK3) | (go_at_call 79; refine (entGt2.calls a0_6 A0_4 c0_4 l0_4 gb3 _ (kC HR4) (blk_lt (oF BK3)) ((blk_cell (oF BK3) 6).trans rfl) HL4.out).mono ?_; rintro e w4 ⟨rfl, hb⟩; replace BK3 := kb_ BK3 hb; replace BK4 := kb_ BK4 hb; replace BK6 := kb_ BK6 hb; replace HB := Aside0.mk (below_step oB hb); clear hb))
 (try simp only [Act.put, List.setIfInBounds_toArray, List.set_cons_zero, List.set_cons_succ])
 go_cut [7] (fun v7 wc => v7 = .int .i64 ((posN a0_6 l0_4 : Nat) : Int) ∧ Aside0 (wc.heap[gb3]? = some (.cells #[.int .i64 a0_0, .int .i64 a0_1, .int .i64 a0_2, .slice A0_3 l0_3.length c0_3, .slice A0_4 l0_4.length c0_4, .slice A0_5 l0_5.length c0_5, .string a0_6] 84 (0, 0))) ∧ Aside0 (wc.heap[gb4]? = some (.cells #[.slice A1_0 l1_0.length c1_0, .int .i64 a1_1] 26 (0, 0))) ∧ Aside0 (wc.heap[gb6]? = some (.cells #[.slice none 0 0, .int .i64 0] 26 (0, 0))) ∧ Aside0 (Below w.heap.size w wc))
 case first =>
  obtain ⟨⟨_, _, _, _, _, _, _⟩, _, _, _, _, _, _, _⟩ := z7 BK3
  rcases gtN_spec a0_6 l0_4 0 with hgt | ⟨j, hgt, hj⟩
  ·have hpo : posN a0_6 l0_4 = l0_4.length := by unfold posN; rw [hgt]; rfl
   have hj0 : decide ((-1 : Int) < 0) = true := rfl
   rw [hgt]
   go_wp2
   go_meet
   case rel => exact ⟨by rw [hpo], ⟨oF BK3⟩, ⟨oF BK4⟩, ⟨oF BK6⟩, ⟨oB⟩⟩
  ·have hpo : posN a0_6 l0_4 = j := by unfold posN; rw [hgt, if_neg (by omega)]; omega
   have hj0 : decide (((0 + j : Nat) : Int) < 0) = false := decide_eq_false (by omega)
   rw [hgt]
   go_wp2
   go_meet
   case rel => exact ⟨by rw [hpo, Nat.zero_add], ⟨oF BK3⟩, ⟨oF BK4⟩, ⟨oF BK6⟩, ⟨oB⟩⟩
 case rest =>
  obtain ⟨rfl, BK3, BK4, BK6, HB⟩ := hcut
  try go_wp2
  replace BK3 := Aside0.mk (blk_drew BK3.out)
  replace BK4 := Aside0.mk (blk_drew BK4.out)
  replace BK6 := Aside0.mk (blk_drew BK6.out)
  replace HB := Aside0.mk (below_drew1 HB.out)
  refine start_ (n := 14) (S := fun w' => w'.cell? ⟨gb3, 4, none⟩ = some (.slice A0_4 l0_4.length c0_4) ∧ w'.cell? ⟨gb3, 6, none⟩ = some (.string a0_6)) (ds := [13]) (lb 14 0) (by kernel_rfl) rfl rfl oH (fun hHeld => ?_)
  generalize wc.drew = w5 at BK3 BK4 BK6 HB hHeld ⊢
  refine p0_ 0 19 ?_
  refine p0_ 1 20 ?_
  refine t0_ 2 21 hHeld ?_
  refine p0_ 4 23 ?_
  refine p0_ 5 24 ?_
  refine t0_ 6 25 hHeld ?_
  refine p0_ 7 26 ?_
  refine p0_ 8 27 ?_
  refine join_ (σ := Value × Nat) 4 (lb 14 1023) (fun s_ => [(22, s_.1), (28, .slice (some ⟨s_.2, 0, none⟩) 1 1)]) (fun s_ w' => (w'.cell? ⟨gb3, 4, none⟩ = some (.slice A0_4 l0_4.length c0_4) ∧ w'.cell? ⟨gb3, 6, none⟩ = some (.string a0_6)) ∧ Kd.R k65 65 w' w.heap.size (fun k_ => k_ ≠ gb3 ∧ k_ ≠ gb4 ∧ k_ ≠ gb6 ∧ k_ ≠ s_.2) s_.1 y ∧ w'.heap[s_.2]? = some (.cells #[.string a0_6, .int .i64 a2] 65 (0, 0)) ∧ w'.heap[gb3]? = some (.cells #[.int .i64 a0_0, .int .i64 a0_1, .int .i64 a0_2, .slice A0_3 l0_3.length c0_3, .slice A0_4 l0_4.length c0_4, .slice A0_5 l0_5.length c0_5, .string a0_6] 84 (0, 0)) ∧ w'.heap[gb4]? = some (.cells #[.slice A1_0 l1_0.length c1_0, .int .i64 a1_1] 26 (0, 0)) ∧ w'.heap[gb6]? = some (.cells #[.slice none 0 0, .int .i64 0] 26 (0, 0)) ∧ Below w.heap.size w w') ?_ ?_
  rotate_left
  ·intro hCont
   refine two_ (i := 3) (j := 9) (Ni := some 22) (Nj := some 28) (lb 14 511) (lb 14 1015) rfl rfl rfl rfl (by kernel_rfl) (by decide) (by decide) (fun K hK => ?_) (fun K hK => ?_)
   ·refine gr_ 22 Tryz.func82 (slices_Clone_Ent.calls _ _ l0_4 y _ (kC HR4) HC4.out H1.out) ?_
    rintro e w6 ⟨v22, rfl, ho, hb⟩
    refine ⟨_, rfl, ?_⟩
    have HO := Aside0.mk (Kd.R_lower (Kd.R_newB (Kd.R_newB (Kd.R_newB ho (oF BK3)) (oF BK4)) (oF BK6)) (below_size oB))
    replace BK3 := kb_ BK3 hb
    replace BK4 := kb_ BK4 hb
    replace BK6 := kb_ BK6 hb
    replace HB := Aside0.mk (below_step oB hb)
    clear hb ho
    refine hk_ hK 22 oH (fun hHeld => ?_)
    clear hK K
    refine o0_ 9 28 (fun K hK => ?_)
    refine event_step (v := .slice (some ⟨w6.heap.size, 0, none⟩) 1 1) (w1 := w6.alloc (.cells #[.string a0_6, .int .i64 a2] 65)) (by rfl) (by first | (go_simp; done) | (go_simp; rfl)) ?_
    refine hk_ hK 28 ⟨(World.cell?_alloc_lt _ _ _ (blk_lt BK3.out)).trans hHeld.1, (World.cell?_alloc_lt _ _ _ (blk_lt BK3.out)).trans hHeld.2⟩ (fun hHeld => ?_)
    clear hK K
    exact norm_ (by simp only [putAll, Act.put, List.setIfInBounds_toArray, List.set_cons_zero, List.set_cons_succ]) (hCont (v22, w6.heap.size) _ ⟨hHeld, Kd.R_alloc (Kd.R_mono (Kd.R_bound HO.out) (fun _ hk => ⟨hk.1.1.1.2, hk.1.1.2, hk.1.2, Nat.ne_of_lt hk.2.2.1⟩)) _, blk_new _ _, blk_alloc BK3.out _, blk_alloc BK4.out _, blk_alloc BK6.out _, below_alloc HB.out _⟩)
   ·refine event_step (v := .slice (some ⟨w5.heap.size, 0, none⟩) 1 1) (w1 := w5.alloc (.cells #[.string a0_6, .int .i64 a2] 65)) (by rfl) (by first | (go_simp; done) | (go_simp; rfl)) ?_
    refine hk_ hK 28 ⟨(World.cell?_alloc_lt _ _ _ (blk_lt BK3.out)).trans hHeld.1, (World.cell?_alloc_lt _ _ _ (blk_lt BK3.out)).trans hHeld.2⟩ (fun hHeld => ?_)
    clear hK K
    have BK9 := Aside0.mk (blk_new w5 (.cells #[.string a0_6, .int .i64 a2] 65))
    replace BK3 := Aside0.mk (blk_alloc BK3.out (.cells #[.string a0_6, .int .i64 a2] 65))
    replace BK4 := Aside0.mk (blk_alloc BK4.out (.cells #[.string a0_6, .int .i64 a2] 65))
    replace BK6 := Aside0.mk (blk_alloc BK6.out (.cells #[.string a0_6, .int .i64 a2] 65))
    replace HB := Aside0.mk (below_alloc HB.out (.cells #[.string a0_6, .int .i64 a2] 65))
    generalize w5.alloc (.cells #[.string a0_6, .int .i64 a2] 65) = w6 at BK3 BK4 BK6 BK9 HB hHeld ⊢
    refine o0_ 3 22 (fun K hK => ?_)
    refine gr_ 22 Tryz.func82 (slices_Clone_Ent.calls _ _ l0_4 y _ (kC HR4) HC4.out H1.out) ?_
    rintro e w7 ⟨v22, rfl, ho, hb⟩
    refine ⟨_, rfl, ?_⟩
    have HO := Aside0.mk (Kd.R_lower (Kd.R_newB (Kd.R_newB (Kd.R_newB (Kd.R_newB ho (oF BK3)) (oF BK4)) (oF BK6)) (oF BK9)) (below_size oB))
    replace BK3 := kb_ BK3 hb
    replace BK4 := kb_ BK4 hb
    replace BK6 := kb_ BK6 hb
    replace BK9 := kb_ BK9 hb
    replace HB := Aside0.mk (below_step oB hb)
    clear hb ho
    refine hk_ hK 22 oH (fun hHeld => ?_)
    clear hK K
    exact norm_ (by simp only [putAll, Act.put, List.setIfInBounds_toArray, List.set_cons_zero, List.set_cons_succ]) (hCont (v22, w5.heap.size) _ ⟨hHeld, Kd.R_mono HO.out (fun _ hk => ⟨hk.1.1.1.2, hk.1.1.2, hk.1.2, hk.2⟩), BK9.out, BK3.out, BK4.out, BK6.out, HB.out⟩)
  clear BK3 BK4 BK6 HB hHeld
  rintro ⟨v22, g9⟩ w7 ⟨hHeld, hR, hG, b3, b4, b6, hB⟩
  dsimp only at hR hG
  have BK3 := Aside0.mk b3
  have BK4 := Aside0.mk b4
  have BK6 := Aside0.mk b6
  have HB := Aside0.mk hB
  clear b3 b4 b6 hB
  obtain ⟨A9, c9, rfl⟩ := Kd.R_slice hR
  refine norm_ (a' := ?_) ?_ ?_
  rotate_left
  ·simp only [putAll, Act.put, List.setIfInBounds_toArray, List.set_cons_zero, List.set_cons_succ]
   rfl
  refine o0_ 10 29 (fun K hK => ?_)
  refine gr_ 29 Tryz.func81 (insEnt.calls A9 y.length c9 (posN a0_6 l0_4) g9 w.heap.size _ (y.map encE) [.string a0_6, .int .i64 a2] w _ HPY.out (List.length_map ..) (rawR (d := k65) encE (fun _ _ _ _ _ h => k65_openM h) hR) hG (Kd.R_away hR (fun _ hk => hk.2.2.2)) rfl (by simp; exact ⟨rfl, rfl⟩) HB.out (below_size HB.out) H24.out) ?_
  rintro e w8 ⟨v', rfl, hr8, hb8, hg8, hat8⟩
  refine ⟨_, rfl, ?_⟩
  rw [show (y.map encE).take (posN a0_6 l0_4) ++ [[.string a0_6, .int .i64 a2]] ++ (y.map encE).drop (posN a0_6 l0_4) = Y.map encE from by rw [HY.out]; simp [List.map_take, List.map_drop, encE]] at hr8
  have HR8 := Aside0.mk (Kd.R_mono (ok' := fun k_ => k_ ≠ gb3 ∧ k_ ≠ gb4 ∧ k_ ≠ gb6) (unrawR (d := k65) encE (fun _ _ _ x => k65_mkM _ _ _ x) hr8) (fun k_ hk => by
   have l3 := blk_lt BK3.out
   have l4 := blk_lt BK4.out
   have l6 := blk_lt BK6.out
   rcases hk with h | h
   ·have := hR.1 k_ h.symm
    exact ⟨this.1, this.2.1, this.2.2.1⟩
   ·exact ⟨by omega, by omega, by omega⟩))
  replace BK3 := Aside0.mk (blk_grown BK3.out hg8 (Kd.R_away hR (fun _ hk => hk.1)))
  replace BK4 := Aside0.mk (blk_grown BK4.out hg8 (Kd.R_away hR (fun _ hk => hk.2.1)))
  replace BK6 := Aside0.mk (blk_grown BK6.out hg8 (Kd.R_away hR (fun _ hk => hk.2.2.1)))
  replace HB := Aside0.mk hb8
  obtain ⟨A8, c8, rfl⟩ := Kd.R_slice HR8.out
  clear hr8 hb8 hg8 hat8 hR hG hHeld
  refine hk_ hK 29 oH (fun hHeld => ?_)
  clear hK K
  refine p0_ 11 30 ?_
  refine p0_ 12 31 ?_
  refine last_ (i := 13) (N := none) (lb 14 16383) rfl rfl (by kernel_rfl) (by decide) (fun K hK => ?_)
  obtain ⟨⟨_, _, _, _, _, _, _⟩, _, _, _, _, _, _, _⟩ := z7 BK3
  refine skip_ (w1 := ?_) (by rfl) rfl ?_ ?_
  rotate_left
  ·go_simp
   rfl
  refine hK.out _ _ ?_
  clear hK K
  refine done_ (by kernel_rfl) ?_
  have n3_ : Aside0 ((w8.setCell ⟨gb3, 4, none⟩ (.slice A8 Y.length c8)).heap[gb3]? = some (.cells #[.int .i64 a0_0, .int .i64 a0_1, .int .i64 a0_2, .slice A0_3 l0_3.length c0_3, .slice A8 Y.length c8, .slice A0_5 l0_5.length c0_5, .string a0_6] 84 (0, 0))) := ⟨oP BK3⟩
  have n4_ := Aside0.mk (Kd.R_far (p := ⟨gb3, 4, none⟩) HR8.out (fun _ hk => hk.1) (.slice A8 Y.length c8))
  generalize hW_ : w8.setCell ⟨gb3, 4, none⟩ (.slice A8 Y.length c8) = w9 at n3_ n4_ ⊢
  replace BK4 := kw_ hW_ BK4
  replace BK6 := kw_ hW_ BK6
  replace HB := hw_ hW_ HB
  clear BK3 HR8 hW_
  obtain ⟨⟨_, _, _, _, _, _, _⟩, _, _, _, _, _, _, _⟩ := z7 n3_
  obtain ⟨⟨_, _⟩, _, _⟩ := z2 BK4
  go_wp2_with ((with_reducible refine gate_callee (f := 50) rfl ?_); refine gl_ 35 Tryz.func50 (impl_SetInode.calls k _ _ l1_0 a1_1 a0_0 a0_1 a0_2 _ _ l0_3 _ _ Y _ _ l0_5 r1 r2 _ (kC HR0) HC0.out (kC HR3) HC3.out (kO n4_) (ko n4_) (kC HR5) HC5.out H2.out) ?_; rintro e w10 ⟨v0, rfl, hs, hb⟩; refine ⟨_, rfl, ?_⟩; obtain ⟨A0, c0, rfl⟩ := Kd.S_slice hs; have HS := siv' hs w9.heap.size w.heap.size (Nat.le_refl _) (below_size HB.out); have hl6 := Aside0.mk (blk_lt BK6.out); replace BK6 := kb_ BK6 hb; replace HB := Aside0.mk (below_step oB hb); clear hs hb; obtain ⟨⟨_, _⟩, _, _⟩ := z2 BK6)
  refine bodyPost_ret (results_cell_row rfl _ _ gb6 26 #[.slice A0 r1.length c0, .int .i64 r2] (0, 0) _ rfl (oP BK6) Tryz.underlying26 rfl (by kernel_rfl)) rfl ?_
  exact ⟨_, rfl, Kd.S_mono (Kd.S_far (Kd.S_far HS.out (fun k_ hk => by have := hk.1; have := hl6.out; dsimp only; omega) _) (fun k_ hk => by have := hk.1; have := hl6.out; dsimp only; omega) _) (fun _ _ => trivial), oB⟩
end Go.Proofs.YtkcfmbggdkkfeaaGreatDoor.P
