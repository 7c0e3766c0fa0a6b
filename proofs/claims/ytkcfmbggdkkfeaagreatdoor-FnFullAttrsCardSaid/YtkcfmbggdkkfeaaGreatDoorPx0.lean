-- By this session's own program (wip/myprint.py) out of the translation; Lean checks it.
import Derived.Test.YtkcfmbggdkkfeaaGreatDoorProg
import Derived.Below
import Derived.Deep.Draws
import Derived.Deep.AppendLies
import Derived.Maps.AppendAt
import Derived.OwnWalk
import Derived.Laws.BytesArg
import Derived.Laws.MakeOwn
import Derived.Laws.OwnMore
import Derived.Deep.OwnRows
import Derived.Tactics
import Derived.Lib.ConvBytes
import Derived.Laws.Slices
import Derived.WalkKit
import Derived.KernelRfl
import Derived.RowKit3
import Derived.Deep.LoopGhost
import Derived.Deep.QuietTactic
import Derived.BigQuiet
import Derived.WideLaws
import Derived.Deep.DeepCutAuto
import Derived.Deep.CutBlock
import Derived.Deep.RegionHeld3
import Derived.Laws.Rows
import Derived.Lib.AppendStr
import Derived.ArgAppend
import Derived.Laws.IdiomCopy
import Derived.OrdersHeld
import Derived.Laws.BitsLemmas
import Derived.RowKit
import Derived.Laws.Cover1
import Derived.WalkSpells
import Derived.Test.YtkcfmbggdkkfeaaGreatDoorSh
import Derived.Sort.OwnSortedInts
import Derived.Lib.Overlaps
import Derived.Laws.IdiomCopy
import Derived.Lib.AppendZerosOnto
import Derived.Laws.NewBlocks
import Derived.Shelf.RegionOpenPlain
import Derived.Shelf.Strings.SplitShaped
import Derived.Shelf.Strings.OnBuilder
import Derived.Test.YtkcfmbggdkkfeaaGreatDoorSh
import Derived.Test.YtkcfmbggdkkfeaaGreatDoorWWords
import Derived.Test.YtkcfmbggdkkfeaaGreatDoorWLast
import Derived.Test.YtkcfmbggdkkfeaaGreatDoorWTab
import Derived.Test.YtkcfmbggdkkfeaaGreatDoorWFour
import Derived.Test.YtkcfmbggdkkfeaaGreatDoorWQPut
import Derived.Test.YtkcfmbggdkkfeaaGreatDoorWApart
import Derived.Test.YtkcfmbggdkkfeaaGreatDoorWArr
import Derived.Test.YtkcfmbggdkkfeaaGreatDoorWZeros
import Derived.Test.YtkcfmbggdkkfeaaGreatDoorWFoot
import Derived.Test.YtkcfmbggdkkfeaaGreatDoorWKept
import Derived.Test.YtkcfmbggdkkfeaaGreatDoorWShare
import Derived.Test.YtkcfmbggdkkfeaaGreatDoorWN
import Derived.Test.YtkcfmbggdkkfeaaGreatDoorWFootNe
import Derived.Test.YtkcfmbggdkkfeaaGreatDoorWAt
import Derived.Test.YtkcfmbggdkkfeaaGreatDoorWEqStruct
import Derived.Test.YtkcfmbggdkkfeaaGreatDoorWRepsOne
import Derived.Test.YtkcfmbggdkkfeaaGreatDoorWInv
import Derived.Test.YtkcfmbggdkkfeaaGreatDoorWInvWords
import Derived.Test.YtkcfmbggdkkfeaaGreatDoorWGuard
import Derived.Test.YtkcfmbggdkkfeaaGreatDoorWNEv
import Derived.Test.YtkcfmbggdkkfeaaGreatDoorWMore
namespace Go.Proofs.YtkcfmbggdkkfeaaGreatDoor.P
open Go.RowKit Go.Proofs.YtkcfmbggdkkfeaaGreatDoorW.PrintWords Go.Proofs.YtkcfmbggdkkfeaaGreatDoorW.PrintLast Go.Proofs.YtkcfmbggdkkfeaaGreatDoorW.PrintMore
attribute [local go_sem] max2_int min2_int max_two min_two max_three min_three max_four min_four   -- for this text's walks alone
set_option linter.unusedVariables false
set_option linter.unusedSimpArgs false

theorem oa {p : Prop} [Decidable p] (h : decide p = true := by first | (with_reducible assumption) | assumption) : p := of_decide_eq_true h
theorem oD {p : Prop} (h : p := by repeat (first | exact Drawn0.refl _ | apply Drawn0.step)) : p := h
theorem oE {p : Prop} (h : p := by first | rfl | (simp [errW_none, errW_some] <;> rfl) | (simp [*, errW_none, errW_some] <;> rfl)) : p := h
theorem oL {p : Prop} (h : p := by (try simp only [List.map_toArray, List.map_cons, List.map_nil]); first | done | rfl | (simp only [List.length_drop, List.length_take]; rfl)) : p := h
theorem oS {p : Prop} (h : p := by first | rfl | (simp; done) | (simp [*]; done)) : p := h
theorem bA {α β : Type} {x : Option α} {f : α → Option β} {r : β} (h : x.bind f = some r) : ∃ a, Aside0 (x = some a) ∧ f a = some r := by
  obtain ⟨a, h1, h2⟩ := Option.bind_eq_some_iff.mp h
  exact ⟨a, ⟨h1⟩, h2⟩
theorem itB {α : Type} {b : Bool} {x y : Option α} {r : α} (h : (if b = true then x else y) = some r) : (b = true ∧ x = some r) ∨ (b = false ∧ y = some r) := by
  cases b
  · exact .inr ⟨rfl, by simpa using h⟩
  · exact .inl ⟨rfl, by simpa using h⟩
theorem itD {α : Type} {p : Prop} [d : Decidable p] {x y : Option α} {r : α} (h : (if p then x else y) = some r) : (decide p = true ∧ x = some r) ∨ (decide p = false ∧ y = some r) := by
  by_cases c : p
  · exact .inl ⟨decide_eq_true c, by rwa [if_pos c] at h⟩
  · exact .inr ⟨decide_eq_false c, by rwa [if_neg c] at h⟩
theorem itG {α : Type} {a b : Int} {x y : Option α} {r : α} (h : (if a > b then x else y) = some r) : (decide (b < a) = true ∧ x = some r) ∨ (decide (b < a) = false ∧ y = some r) := itD h
theorem itH {α : Type} {a b : Int} {x y : Option α} {r : α} (h : (if a ≥ b then x else y) = some r) : (decide (b ≤ a) = true ∧ x = some r) ∨ (decide (b ≤ a) = false ∧ y = some r) := itD h
theorem bs_ {w W : World} {g j : Nat} {v : Value} (h : Below w.heap.size w W) (hg : Aside0 (w.heap.size ≤ g)) : Below w.heap.size w (W.setCell ⟨g, j, none⟩ v) := below_set h hg.out
theorem oB {p : Prop} (h : p := by repeat (first | (with_reducible first | exact HB.out | apply below_alloc | apply pw_below_drewN | apply below_drew1 | refine bs_ ?_ (by with_reducible assumption)) | exact HB.out)) : p := h
theorem oQ {p : Prop} (h : p := by first | exact ⟨rfl, _, World.drewN_drewN _ _ _⟩ | exact ⟨rfl, _, Eq.trans (World.drewN_drewN _ _ _) (congrArg (World.drewN _) (Nat.add_assoc _ _ _))⟩) : p := h
theorem cB {w W : World} {a : Addr} {v : Value} (hB : Aside0 (Below w.heap.size w W)) (h : w.cell? a = some v) : W.cell? a = some v := (hB.out.cell (World.block_lt_of_cell? w _ h)).trans h
theorem oT {p : Prop} [Decidable p] (h : decide p = true := by first | (with_reducible assumption) | assumption) : p = True := eq_true (of_decide_eq_true h)
theorem bc_ {w : World} {g i : Nat} {t : TypeId} {cs : Array Value} {v : Value} (h : Aside0 (w.heap[g]? = some (.cells cs t (0, 0)))) (e : cs[i]? = some v) : w.cell? ⟨g, i, none⟩ = some v := (blk_cell h.out i).trans e
theorem oH {p : Prop} (h : p := by (repeat' (with_reducible refine And.intro ?_ ?_)) <;> (first | exact cB HB (by with_reducible assumption) | (refine bc_ (by with_reducible assumption) ?_; rfl) | (refine bc_ (Aside0.mk (blk_drewN (Aside0.out (by with_reducible assumption)) _)) ?_; rfl))) : p := h
theorem oF {g : Nat} {o : Obj} {w w1 : World} (_ : Aside0 (w.heap[g]? = some o)) (hd : w1.heap[g]? = some o := by (repeat (first | (with_reducible first | refine blk_drewN ?_ _ | refine blk_drew ?_ | refine blk_alloc ?_ _) | refine blk_far ?_ (Aside0.out (by with_reducible assumption)) _)); exact Aside0.out (by first | (with_reducible assumption) | assumption)) : w1.heap[g]? = some o := hd
theorem z1 {w : World} {g : Nat} {t : TypeId} {v0 : Value} (h : Aside0 (w.heap[g]? = some (.cells #[v0] t (0, 0)))) : w.cell? ⟨g, 0, none⟩ = some v0 ∧ w.frozen? ⟨g, 0, none⟩ = false := ⟨(blk_cell h.out 0).trans rfl, blk_frozen h.out 0⟩
theorem z2 {w : World} {g : Nat} {t : TypeId} {v0 v1 : Value} (h : Aside0 (w.heap[g]? = some (.cells #[v0, v1] t (0, 0)))) : (w.cell? ⟨g, 0, none⟩ = some v0 ∧ w.cell? ⟨g, 1, none⟩ = some v1) ∧ w.frozen? ⟨g, 0, none⟩ = false ∧ w.frozen? ⟨g, 1, none⟩ = false := ⟨⟨(blk_cell h.out 0).trans rfl, (blk_cell h.out 1).trans rfl⟩, blk_frozen h.out 0, blk_frozen h.out 1⟩
theorem z3 {w : World} {g : Nat} {t : TypeId} {v0 v1 v2 : Value} (h : Aside0 (w.heap[g]? = some (.cells #[v0, v1, v2] t (0, 0)))) : (w.cell? ⟨g, 0, none⟩ = some v0 ∧ w.cell? ⟨g, 1, none⟩ = some v1 ∧ w.cell? ⟨g, 2, none⟩ = some v2) ∧ w.frozen? ⟨g, 0, none⟩ = false ∧ w.frozen? ⟨g, 1, none⟩ = false ∧ w.frozen? ⟨g, 2, none⟩ = false := ⟨⟨(blk_cell h.out 0).trans rfl, (blk_cell h.out 1).trans rfl, (blk_cell h.out 2).trans rfl⟩, blk_frozen h.out 0, blk_frozen h.out 1, blk_frozen h.out 2⟩
theorem z4 {w : World} {g : Nat} {t : TypeId} {v0 v1 v2 v3 : Value} (h : Aside0 (w.heap[g]? = some (.cells #[v0, v1, v2, v3] t (0, 0)))) : (w.cell? ⟨g, 0, none⟩ = some v0 ∧ w.cell? ⟨g, 1, none⟩ = some v1 ∧ w.cell? ⟨g, 2, none⟩ = some v2 ∧ w.cell? ⟨g, 3, none⟩ = some v3) ∧ w.frozen? ⟨g, 0, none⟩ = false ∧ w.frozen? ⟨g, 1, none⟩ = false ∧ w.frozen? ⟨g, 2, none⟩ = false ∧ w.frozen? ⟨g, 3, none⟩ = false := ⟨⟨(blk_cell h.out 0).trans rfl, (blk_cell h.out 1).trans rfl, (blk_cell h.out 2).trans rfl, (blk_cell h.out 3).trans rfl⟩, blk_frozen h.out 0, blk_frozen h.out 1, blk_frozen h.out 2, blk_frozen h.out 3⟩
theorem z5 {w : World} {g : Nat} {t : TypeId} {v0 v1 v2 v3 v4 : Value} (h : Aside0 (w.heap[g]? = some (.cells #[v0, v1, v2, v3, v4] t (0, 0)))) : (w.cell? ⟨g, 0, none⟩ = some v0 ∧ w.cell? ⟨g, 1, none⟩ = some v1 ∧ w.cell? ⟨g, 2, none⟩ = some v2 ∧ w.cell? ⟨g, 3, none⟩ = some v3 ∧ w.cell? ⟨g, 4, none⟩ = some v4) ∧ w.frozen? ⟨g, 0, none⟩ = false ∧ w.frozen? ⟨g, 1, none⟩ = false ∧ w.frozen? ⟨g, 2, none⟩ = false ∧ w.frozen? ⟨g, 3, none⟩ = false ∧ w.frozen? ⟨g, 4, none⟩ = false := ⟨⟨(blk_cell h.out 0).trans rfl, (blk_cell h.out 1).trans rfl, (blk_cell h.out 2).trans rfl, (blk_cell h.out 3).trans rfl, (blk_cell h.out 4).trans rfl⟩, blk_frozen h.out 0, blk_frozen h.out 1, blk_frozen h.out 2, blk_frozen h.out 3, blk_frozen h.out 4⟩
theorem z6 {w : World} {g : Nat} {t : TypeId} {v0 v1 v2 v3 v4 v5 : Value} (h : Aside0 (w.heap[g]? = some (.cells #[v0, v1, v2, v3, v4, v5] t (0, 0)))) : (w.cell? ⟨g, 0, none⟩ = some v0 ∧ w.cell? ⟨g, 1, none⟩ = some v1 ∧ w.cell? ⟨g, 2, none⟩ = some v2 ∧ w.cell? ⟨g, 3, none⟩ = some v3 ∧ w.cell? ⟨g, 4, none⟩ = some v4 ∧ w.cell? ⟨g, 5, none⟩ = some v5) ∧ w.frozen? ⟨g, 0, none⟩ = false ∧ w.frozen? ⟨g, 1, none⟩ = false ∧ w.frozen? ⟨g, 2, none⟩ = false ∧ w.frozen? ⟨g, 3, none⟩ = false ∧ w.frozen? ⟨g, 4, none⟩ = false ∧ w.frozen? ⟨g, 5, none⟩ = false := ⟨⟨(blk_cell h.out 0).trans rfl, (blk_cell h.out 1).trans rfl, (blk_cell h.out 2).trans rfl, (blk_cell h.out 3).trans rfl, (blk_cell h.out 4).trans rfl, (blk_cell h.out 5).trans rfl⟩, blk_frozen h.out 0, blk_frozen h.out 1, blk_frozen h.out 2, blk_frozen h.out 3, blk_frozen h.out 4, blk_frozen h.out 5⟩
theorem z7 {w : World} {g : Nat} {t : TypeId} {v0 v1 v2 v3 v4 v5 v6 : Value} (h : Aside0 (w.heap[g]? = some (.cells #[v0, v1, v2, v3, v4, v5, v6] t (0, 0)))) : (w.cell? ⟨g, 0, none⟩ = some v0 ∧ w.cell? ⟨g, 1, none⟩ = some v1 ∧ w.cell? ⟨g, 2, none⟩ = some v2 ∧ w.cell? ⟨g, 3, none⟩ = some v3 ∧ w.cell? ⟨g, 4, none⟩ = some v4 ∧ w.cell? ⟨g, 5, none⟩ = some v5 ∧ w.cell? ⟨g, 6, none⟩ = some v6) ∧ w.frozen? ⟨g, 0, none⟩ = false ∧ w.frozen? ⟨g, 1, none⟩ = false ∧ w.frozen? ⟨g, 2, none⟩ = false ∧ w.frozen? ⟨g, 3, none⟩ = false ∧ w.frozen? ⟨g, 4, none⟩ = false ∧ w.frozen? ⟨g, 5, none⟩ = false ∧ w.frozen? ⟨g, 6, none⟩ = false := ⟨⟨(blk_cell h.out 0).trans rfl, (blk_cell h.out 1).trans rfl, (blk_cell h.out 2).trans rfl, (blk_cell h.out 3).trans rfl, (blk_cell h.out 4).trans rfl, (blk_cell h.out 5).trans rfl, (blk_cell h.out 6).trans rfl⟩, blk_frozen h.out 0, blk_frozen h.out 1, blk_frozen h.out 2, blk_frozen h.out 3, blk_frozen h.out 4, blk_frozen h.out 5, blk_frozen h.out 6⟩
theorem kb_ {g : Nat} {o : Obj} {w w1 w2 : World} (_ : Aside0 (w.heap[g]? = some o)) (hb : Below w1.heap.size w1 w2) (hd : w1.heap[g]? = some o := by (repeat (first | (with_reducible first | refine blk_drewN ?_ _ | refine blk_drew ?_ | refine blk_alloc ?_ _) | refine blk_far ?_ (Aside0.out (by with_reducible assumption)) _)); exact Aside0.out (by first | (with_reducible assumption) | assumption)) : Aside0 (w2.heap[g]? = some o) := ⟨blk_below hd hb⟩
theorem nl_ {g g' : Nat} {o : Obj} {w w1 : World} (hg : g' = w1.heap.size) (_ : Aside0 (w.heap[g]? = some o)) (hd : w1.heap[g]? = some o := by (repeat (first | (with_reducible first | refine blk_drewN ?_ _ | refine blk_drew ?_ | refine blk_alloc ?_ _) | refine blk_far ?_ (Aside0.out (by with_reducible assumption)) _)); exact Aside0.out (by first | (with_reducible assumption) | assumption)) : Aside0 (g ≠ g') := ⟨by rw [hg]; exact Nat.ne_of_lt (blk_lt hd)⟩
theorem nr_ {g g' : Nat} {o : Obj} {w w1 : World} (hg : g' = w1.heap.size) (_ : Aside0 (w.heap[g]? = some o)) (hd : w1.heap[g]? = some o := by (repeat (first | (with_reducible first | refine blk_drewN ?_ _ | refine blk_drew ?_ | refine blk_alloc ?_ _) | refine blk_far ?_ (Aside0.out (by with_reducible assumption)) _)); exact Aside0.out (by first | (with_reducible assumption) | assumption)) : Aside0 (g' ≠ g) := ⟨by rw [hg]; exact Nat.ne_of_gt (blk_lt hd)⟩
theorem gs_ {g : Nat} {w W : World} (hg : g = W.heap.size) (h : Below w.heap.size w W := by repeat (first | (with_reducible first | exact HB.out | apply below_alloc | apply pw_below_drewN | apply below_drew1 | refine bs_ ?_ (by with_reducible assumption)) | exact HB.out)) : Aside0 (w.heap.size ≤ g) := ⟨by rw [hg]; exact below_size h⟩
section
variable {P : Program} {ops : Array Oper} {Q : Exit → Act → World → Prop} {rest : List Oper} {oi : Oper} {a : Act} {w : World}
theorem gl_ (N : Tmp) {f : FuncId} {fn : Func} (hf : P.funcs[f]? = some fn) {args : Array Value} {R : Ending → World → Prop} {aa : Array Operand} {ts : Array TypeId} (h : Calls P f args w R) (hn : ∀ e w', R e w' → ∃ v, e = .returned v ∧ wpList P ops Q rest (a.put (some N) v) w')
    (hop : oi.op = .call { callee := .value (.func f), args := aa, argTypes := ts } := by exact rfl) (hargs : aa.map a.eval = args := by (try simp only [List.map_toArray, List.map_cons, List.map_nil]); first | done | rfl | (simp only [List.length_drop, List.length_take]; rfl)) (hd : oi.dst = some N := by exact rfl) (hg : oi.guard = none := by exact rfl) (hname : (fn.name == "runtime.NumGoroutine") = false := by kernel_rfl) (hb : fn.body.isSome = true := by exact rfl) : wpList P ops Q (oi :: rest) a w :=
  goesL_ (some N) hd hg hf hname hb args hop hargs (h.mono hn)
theorem bx_ {W : World} (N : Tmp) (cs : Array Value) (t : TypeId)
    (h : ∀ g, g = W.heap.size → ∀ w1, w1.heap[g]? = some (.cells cs t (0, 0)) → Below W.heap.size W w1 → wpList P ops Q rest (a.put oi.dst (.pointer (some ⟨g, 0, none⟩))) w1) (hgd : oi.guard = none := by exact rfl) (hd : oi.dst = some N := by exact rfl)
    (hrun : (execOp a.eval oi).run P W = .ok (.value (.pointer (some ⟨W.heap.size, 0, none⟩))) (W.alloc (.cells cs t (0, 0))) := by first | (go_simp; done) | (go_simp; rfl)) : wpList P ops Q (oi :: rest) a W := box_event hgd hd hrun h
end
section
variable {α : Type} {d : Kd α} {e base n : Nat} {ok okv : Nat → Prop} {w w1 w2 : World} {A : Option Addr} {c : Nat} {u v : Value} {xs : List α}
theorem ke_ {β : Type} {d' : Kd β} {e' : Nat} {ys : List β} (_ : Aside0 (d.R e w base ok u xs)) (ho : d'.R e' w2 w1.heap.size okv v ys) (hb : Below w1.heap.size w1 w2) (hd : d.R e w1 base ok u xs := by (with_reducible repeat (first | apply Kd.R_alloc | apply Kd.R_drewN | apply Kd.R_drew)); exact Aside0.out (by first | (with_reducible assumption) | assumption)) : Aside0 (d.R e w2 base (fun k => ok k ∧ some k ≠ v.ownBlock) u xs) := ⟨Kd.R_elder' hd (Kd.R_base ho) hb⟩
theorem kr_ (_ : Aside0 (d.R e w base ok u xs)) (hb : Below w1.heap.size w1 w2) (hd : d.R e w1 base ok u xs := by (with_reducible repeat (first | apply Kd.R_alloc | apply Kd.R_drewN | apply Kd.R_drew)); exact Aside0.out (by first | (with_reducible assumption) | assumption)) : Aside0 (d.R e w2 base ok u xs) := ⟨Kd.R_below hd hb⟩
theorem kl_ (_ : Aside0 (d.R e w base ok u xs)) (hd : d.R e w1 base ok u xs := by (with_reducible repeat (first | apply Kd.R_alloc | apply Kd.R_drewN | apply Kd.R_drew)); exact Aside0.out (by first | (with_reducible assumption) | assumption)) : ∀ k, u.ownBlock = some k → k < w1.heap.size := Kd.R_lt hd
theorem oR (_ : Aside0 (d.R e w base ok u xs)) (hd : d.R e w1 base ok u xs := by (with_reducible repeat (first | apply Kd.R_alloc | apply Kd.R_drewN | apply Kd.R_drew)); exact Aside0.out (by first | (with_reducible assumption) | assumption)) : d.R e w1 base ok u xs := hd
theorem kC (h : Aside0 (Kd.C d w A n xs)) (hb : Below w.heap.size w w1 := by repeat (first | (with_reducible first | exact HB.out | apply below_alloc | apply pw_below_drewN | apply below_drew1 | refine bs_ ?_ (by with_reducible assumption)) | exact HB.out)) : Kd.C d w1 A n xs := Kd.C_below h.out hb
theorem kD (_ : Aside0 (Kd.C d w A n xs)) (hd : Kd.C d w1 A n xs := by (with_reducible repeat (first | refine Kd.C_alloc ?_ _ | refine Kd.C_drewN ?_ _ | refine Kd.C_drew ?_)); exact Aside0.out (by first | (with_reducible assumption) | assumption)) : Kd.C d w1 A n xs := hd
theorem kO (_ : Aside0 (d.R e w base ok (.slice A n c) xs)) (hd : d.R e w1 base ok (.slice A n c) xs := by (with_reducible repeat (first | apply Kd.R_alloc | apply Kd.R_drewN | apply Kd.R_drew)); exact Aside0.out (by first | (with_reducible assumption) | assumption)) : Kd.C d w1 A xs.length xs := (Kd.R_reads' hd).2.2
theorem ko (h : Aside0 (d.R e w base ok (.slice A n c) xs)) : n ≤ c := (Kd.R_reads' h.out).2.1
end
section
variable {P : Program} {ops : Array Oper} {Q : Exit → Act → World → Prop} {md : Region.Mode} {S : World → Prop} {ds : List Nat} {T : Bool × List (List Nat × List Nat)} {B : List Nat}
def lb (n m : Nat) : Array Bool := ((List.range n).map fun i => m.testBit i).toArray
theorem st_ {id : Nat} {a : Act} {w : World} {T : Bool × List (List Nat × List Nat)} {B : List Nat} (n : Nat) (S : World → Prop) (hT : rtab .any ops = T) (hB : waitsOk T.2 B = true) (hS : S w.drew)
    (h : S w.drew → Aside0 (rtab .any ops = T) → Aside0 (waitsOk T.2 B = true) → wpAnyLast P .any ops Q S [] n (lb n 0) a w.drew) (hm : P.follows .mixedOrders = true := by kernel_rfl) (hn : ops.size = n := by exact rfl) (hl : Array.replicate n false = lb n 0 := by exact rfl) : (Code.region id ops true).wp P Q a w :=
  start_ (lb n 0) hm hn hl hS (fun hh => h hh ⟨hT⟩ ⟨hB⟩)
theorem pu_ {n m : Nat} (i : Nat) (N : Tmp) {oi : Oper} {v : Value} {fuel : Nat} {a a' : Act} {w : World} (HT : Aside0 (rtab md ops = T)) (h : wpAnyLast P md ops Q S ds fuel (lb n (m ||| 1 <<< i)) a' w) (hi : ops[i]? = some oi := by exact rfl) (hN : oi.dst = some N := by exact rfl)
    (hc : anyT T (lb n m).toList (lb n (m ||| 1 <<< i)).toList i = true := by kernel_rfl) (hQ : ∀ c a w, Q (.panic c) (a.put oi.dst v) w → Q (.panic c) a w := by exact fun _ _ _ h => h) (hg : Region.wanted oi (yielded ops a.tmps) = true := by exact rfl) (hy : ∀ w, (execOp a.eval oi).run P w = .ok (.value v) w := by intro w'; go_simp; with_reducible rfl)
    (ha : a.put (some N) v = a' := by simp only [Act.put, List.setIfInBounds_toArray, List.set_cons_zero, List.set_cons_succ, i64_w, i32_w]; rfl) : wpAnyLast P md ops Q S ds (fuel + 1) (lb n m) a w := pure_ _ hi hN (any_of HT.out hc) hQ (.inl ⟨hg, hy⟩) ha h
theorem ta_ {n m : Nat} (i : Nat) (N : Tmp) {oi : Oper} {v : Value} {fuel : Nat} {a a' : Act} {w : World} (HT : Aside0 (rtab md ops = T)) (HW : Aside0 (waitsOk T.2 B = true)) (hS : S w) (h : wpAnyLast P md ops Q S ds fuel (lb n (m ||| 1 <<< i)) a' w) (hi : ops[i]? = some oi := by exact rfl) (hN : oi.dst = some N := by exact rfl)
    (hc : takeW T B ds (lb n m).toList (lb n (m ||| 1 <<< i)).toList i = true := by kernel_rfl) (hQ : ∀ c a w, Q (.panic c) (a.put oi.dst v) w → Q (.panic c) a w := by exact fun _ _ _ h => h) (hg : Region.wanted oi (yielded ops a.tmps) = true := by exact rfl)
    (hy : ∀ w, S w → (execOp a.eval oi).run P w = .ok (.value v) w := by intro w' hS_; (try dsimp only at hS_); (repeat (have s_ := And.left hS_; replace hS_ := And.right hS_)); go_simp; with_reducible rfl)
    (ha : a.put (some N) v = a' := by simp only [Act.put, List.setIfInBounds_toArray, List.set_cons_zero, List.set_cons_succ, i64_w, i32_w]; rfl) : wpAnyLast P md ops Q S ds (fuel + 1) (lb n m) a w := take_ _ hi hN (take_ofW HT.out HW.out hc) hQ (.inl ⟨hg, hy⟩) hS ha h
theorem on_ {n m : Nat} (i : Nat) (N : Tmp) {oi : Oper} {fuel : Nat} {a : Act} {w : World} (HT : Aside0 (rtab md ops = T))
    (h : ∀ K : Act → World → Prop, Shut (∀ a' w', S w' → (S w' → wpAnyLast P md ops Q S ds fuel (lb n (m ||| 1 <<< i)) a' w') → K a' w') → if Region.wanted oi (yielded ops a.tmps) = true then Oper.wp P oi a w K Q else K (a.put (some N) undef) w)
    (hi : ops[i]? = some oi := by exact rfl) (hN : oi.dst = some N := by exact rfl) (hc : (readyT T.2 (lb n m).toList == [i] && (lb n m).toList.set i true == (lb n (m ||| 1 <<< i)).toList) = true := by kernel_rfl) (hd : i ∉ ds := by decide) : wpAnyLast P md ops Q S ds (fuel + 1) (lb n m) a w :=
  one_ _ hi hN (one_of HT.out hc) hd h
theorem dn_ {n m : Nat} {fuel : Nat} {a : Act} {w : World} (HT : Aside0 (rtab md ops = T)) (h : Q .normal a w) (hr : (readyT T.2 (lb n m).toList == []) = true := by kernel_rfl) : wpAnyLast P md ops Q S ds fuel (lb n m) a w := done_ (done_of HT.out hr) h
theorem gr_ (N : Tmp) {oi : Oper} {a : Act} {w : World} {K : Act → World → Prop} {f : FuncId} {fn : Func} (hf : P.funcs[f]? = some fn) {args : Array Value} {R : Ending → World → Prop} {aa : Array Operand} {ts : Array TypeId} (h : Calls P f args w R)
    (hn : ∀ e w', R e w' → ∃ v, e = .returned v ∧ K (a.put (some N) v) w') (hop : oi.op = .call { callee := .value (.func f), args := aa, argTypes := ts } := by exact rfl) (hargs : aa.map a.eval = args := by (try simp only [List.map_toArray, List.map_cons, List.map_nil]); first | done | rfl | (simp only [List.length_drop, List.length_take]; rfl)) (hw : Region.wanted oi (yielded ops a.tmps) = true := by exact rfl) (hd : oi.dst = some N := by exact rfl)
    (hname : (fn.name == "runtime.NumGoroutine") = false := by kernel_rfl) (hb : fn.body.isSome = true := by exact rfl) :
    if Region.wanted oi (yielded ops a.tmps) = true then Oper.wp P oi a w K Q else K (a.put (some N) undef) w := goes_ hf hname hb args hw hd hop hargs (h.mono hn)
theorem hk_ {K W : Act → World → Prop} {S : World → Prop} (hK : Shut (∀ a w, S w → (S w → W a w) → K a w)) (N : Tmp) {a a' : Act} {v : Value} {w : World} (hS : S w) (h : S w → W a' w) (ha : a.put (some N) v = a' := by simp only [Act.put, List.setIfInBounds_toArray, List.set_cons_zero, List.set_cons_succ, i64_w, i32_w]; rfl) : K (a.put (some N) v) w := by
  rw [ha]
  exact hK.out _ _ hS h
end

theorem oP {g : Nat} {cs cs' : Array Value} {t : TypeId} {w w1 : World} (_ : Aside0 (w.heap[g]? = some (.cells cs t (0, 0)))) (hd : w1.heap[g]? = some (.cells cs' t (0, 0)) := by (repeat (first | (with_reducible first | refine blk_drewN ?_ _ | refine blk_drew ?_ | refine blk_alloc ?_ _) | (apply blk_far; rotate_left; exact Aside0.out (by with_reducible assumption); rotate_right) | apply blk_put)); (first | exact Aside0.out (by with_reducible assumption) | exact Aside0.out (by assumption)); (all_goals exact rfl)) : w1.heap[g]? = some (.cells cs' t (0, 0)) := hd
theorem kp_ {g : Nat} {cs : Array Value} {t : TypeId} {w w1 w2 : World} (cs' : Array Value) (_ : Aside0 (w.heap[g]? = some (.cells cs t (0, 0)))) (hb : Below w1.heap.size w1 w2) (hd : w1.heap[g]? = some (.cells cs' t (0, 0)) := by (repeat (first | (with_reducible first | refine blk_drewN ?_ _ | refine blk_drew ?_ | refine blk_alloc ?_ _) | (apply blk_far; rotate_left; exact Aside0.out (by with_reducible assumption); rotate_right) | apply blk_put)); (first | exact Aside0.out (by with_reducible assumption) | exact Aside0.out (by assumption)); (all_goals exact rfl)) : Aside0 (w2.heap[g]? = some (.cells cs' t (0, 0))) := ⟨blk_below hd hb⟩
theorem kw_ {g : Nat} {o : Obj} {w w1 w2 : World} (hW : w1 = w2) (_ : Aside0 (w.heap[g]? = some o)) (hd : w1.heap[g]? = some o := by (repeat (first | (with_reducible first | refine blk_drewN ?_ _ | refine blk_drew ?_ | refine blk_alloc ?_ _) | refine blk_far ?_ (Aside0.out (by with_reducible assumption)) _)); exact Aside0.out (by first | (with_reducible assumption) | assumption)) : Aside0 (w2.heap[g]? = some o) := ⟨hW ▸ hd⟩
theorem kv_ {g : Nat} {cs : Array Value} {t : TypeId} {w w1 w2 : World} (cs' : Array Value) (hW : w1 = w2) (_ : Aside0 (w.heap[g]? = some (.cells cs t (0, 0)))) (hd : w1.heap[g]? = some (.cells cs' t (0, 0)) := by (repeat (first | (with_reducible first | refine blk_drewN ?_ _ | refine blk_drew ?_ | refine blk_alloc ?_ _) | (apply blk_far; rotate_left; exact Aside0.out (by with_reducible assumption); rotate_right) | apply blk_put)); (first | exact Aside0.out (by with_reducible assumption) | exact Aside0.out (by assumption)); (all_goals exact rfl)) : Aside0 (w2.heap[g]? = some (.cells cs' t (0, 0))) := ⟨hW ▸ hd⟩
theorem hw_ {w w0 w1 w2 : World} (hW : w1 = w2) (_ : Aside0 (Below w.heap.size w w0)) (hd : Below w.heap.size w w1 := by repeat (first | (with_reducible first | exact HB.out | apply below_alloc | apply pw_below_drewN | apply below_drew1 | refine bs_ ?_ (by with_reducible assumption)) | exact HB.out)) : Aside0 (Below w.heap.size w w2) := ⟨hW ▸ hd⟩
section
variable {P : Program} {ops : Array Oper} {Q : Exit → Act → World → Prop} {md : Region.Mode} {S : World → Prop} {ds : List Nat} {T : Bool × List (List Nat × List Nat)} {B : List Nat}
theorem pn_ {n m : Nat} (i : Nat) (N : Tmp) {oi : Oper} {fuel : Nat} {a a' : Act} {w : World} (HT : Aside0 (rtab md ops = T)) (h : wpAnyLast P md ops Q S ds fuel (lb n (m ||| 1 <<< i)) a' w) (hi : ops[i]? = some oi := by exact rfl) (hN : oi.dst = some N := by exact rfl)
    (hc : anyT T (lb n m).toList (lb n (m ||| 1 <<< i)).toList i = true := by kernel_rfl) (hQ : ∀ c a w, Q (.panic c) (a.put oi.dst undef) w → Q (.panic c) a w := by exact fun _ _ _ h => h) (hg : Region.wanted oi (yielded ops a.tmps) = false := by exact rfl)
    (ha : a.put (some N) undef = a' := by simp only [Act.put, List.setIfInBounds_toArray, List.set_cons_zero, List.set_cons_succ, i64_w, i32_w]; rfl) : wpAnyLast P md ops Q S ds (fuel + 1) (lb n m) a w := pure_ _ hi hN (any_of HT.out hc) hQ (.inr ⟨hg, rfl⟩) ha h
theorem p0_ {n m : Nat} (i : Nat) (N : Tmp) {oi : Oper} {v : Value} {fuel : Nat} {a a' : Act} {w : World} (h : wpAnyLast P md ops Q S ds fuel (lb n (m ||| 1 <<< i)) a' w) (hi : ops[i]? = some oi := by exact rfl) (hN : oi.dst = some N := by exact rfl)
    (hc : anyB md ops (lb n m) (lb n (m ||| 1 <<< i)) i = true := by kernel_rfl) (hQ : ∀ c a w, Q (.panic c) (a.put oi.dst v) w → Q (.panic c) a w := by exact fun _ _ _ h => h) (hg : Region.wanted oi (yielded ops a.tmps) = true := by exact rfl) (hy : ∀ w, (execOp a.eval oi).run P w = .ok (.value v) w := by intro w'; go_simp; with_reducible rfl)
    (ha : a.put (some N) v = a' := by simp only [Act.put, List.setIfInBounds_toArray, List.set_cons_zero, List.set_cons_succ, i64_w, i32_w]; rfl) : wpAnyLast P md ops Q S ds (fuel + 1) (lb n m) a w := pure_ _ hi hN hc hQ (.inl ⟨hg, hy⟩) ha h
theorem t0_ {n m : Nat} (i : Nat) (N : Tmp) {oi : Oper} {v : Value} {fuel : Nat} {a a' : Act} {w : World} (hS : S w) (h : wpAnyLast P md ops Q S ds fuel (lb n (m ||| 1 <<< i)) a' w) (hi : ops[i]? = some oi := by exact rfl) (hN : oi.dst = some N := by exact rfl)
    (hc : takeB md ops ds (lb n m) (lb n (m ||| 1 <<< i)) i = true := by kernel_rfl) (hQ : ∀ c a w, Q (.panic c) (a.put oi.dst v) w → Q (.panic c) a w := by exact fun _ _ _ h => h) (hg : Region.wanted oi (yielded ops a.tmps) = true := by exact rfl)
    (hy : ∀ w, S w → (execOp a.eval oi).run P w = .ok (.value v) w := by intro w' hS_; (try dsimp only at hS_); (repeat (have s_ := And.left hS_; replace hS_ := And.right hS_)); go_simp; with_reducible rfl)
    (ha : a.put (some N) v = a' := by simp only [Act.put, List.setIfInBounds_toArray, List.set_cons_zero, List.set_cons_succ, i64_w, i32_w]; rfl) : wpAnyLast P md ops Q S ds (fuel + 1) (lb n m) a w := take_ _ hi hN hc hQ (.inl ⟨hg, hy⟩) hS ha h
theorem o0_ {n m : Nat} (i : Nat) (N : Tmp) {oi : Oper} {fuel : Nat} {a : Act} {w : World}
    (h : ∀ K : Act → World → Prop, Shut (∀ a' w', S w' → (S w' → wpAnyLast P md ops Q S ds fuel (lb n (m ||| 1 <<< i)) a' w') → K a' w') → if Region.wanted oi (yielded ops a.tmps) = true then Oper.wp P oi a w K Q else K (a.put (some N) undef) w)
    (hi : ops[i]? = some oi := by exact rfl) (hN : oi.dst = some N := by exact rfl) (hc : readyB md ops (lb n m) (lb n (m ||| 1 <<< i)) i = true := by kernel_rfl) (hd : i ∉ ds := by decide) : wpAnyLast P md ops Q S ds (fuel + 1) (lb n m) a w := one_ _ hi hN hc hd h
theorem s0_ {id : Nat} {a : Act} {w : World} (n : Nat) (S : World → Prop) (hS : S w.drew) (h : S w.drew → wpAnyLast P .any ops Q S [] n (lb n 0) a w.drew) (hm : P.follows .mixedOrders = true := by kernel_rfl) (hn : ops.size = n := by exact rfl) (hl : Array.replicate n false = lb n 0 := by exact rfl) : (Code.region id ops true).wp P Q a w :=
  start_ (lb n 0) hm hn hl hS h
end

section
variable {α : Type} {d : Kd α} {e base n g t g2 t2 : Nat} {ok : Nat → Prop} {cs cs2 : Array Value} {w w1 w2 : World} {A : Option Addr} {c : Nat} {u v : Value} {xs : List α}
theorem fa0R {j : Nat} (h : Kd.R d e w base (fun k => ok k ∧ k ≠ g) u xs) : Kd.R d e (w.setCell ⟨g, j, none⟩ v) base (fun k => ok k ∧ k ≠ g) u xs := Kd.R_far h (fun _ hk => hk.2) v
theorem nR0 (h : Aside0 (Kd.R d e w base ok u xs))   (hd : Kd.R d e w base ok u xs → Kd.R d e w1 base ok u xs := by intro h_; (repeat (first | (with_reducible first | exact h_ | apply Kd.R_alloc | apply Kd.R_drewN | apply Kd.R_drew)))) : Kd.R d e w1 base ok u xs := (hd h.out)
theorem nR1 (h : Aside0 (Kd.R d e w base ok u xs)) (b : Aside0 (w.heap[g]? = some (.cells cs t (0, 0)))) (ht : ∀ q, q ∈ e :: d.E → q ≠ t := by decide) (hd : Kd.R d e w base (fun k => ok k ∧ k ≠ g) u xs → Kd.R d e w1 base (fun k => ok k ∧ k ≠ g) u xs := by intro h_; (repeat (first | (with_reducible first | exact h_ | apply Kd.R_alloc | apply Kd.R_drewN | apply Kd.R_drew) | apply fa0R))) : Kd.R d e w1 base ok u xs := (Kd.R_mono (hd (Kd.R_types h.out b.out ht)) (fun _ h_ => h_.1))
theorem ltR1 (h : Aside0 (Kd.R d e w base ok u xs)) (b : Aside0 (w.heap[g]? = some (.cells cs t (0, 0)))) (ht : ∀ q, q ∈ e :: d.E → q ≠ t := by decide) (hd : Kd.R d e w base (fun k => ok k ∧ k ≠ g) u xs → Kd.R d e w1 base (fun k => ok k ∧ k ≠ g) u xs := by intro h_; (repeat (first | (with_reducible first | exact h_ | apply Kd.R_alloc | apply Kd.R_drewN | apply Kd.R_drew) | apply fa0R))) : ∀ k, u.ownBlock = some k → k < w1.heap.size := Kd.R_lt (Kd.R_mono (hd (Kd.R_types h.out b.out ht)) (fun _ h_ => h_.1))
theorem beR1 (h : Aside0 (Kd.R d e w base ok u xs)) (b : Aside0 (w.heap[g]? = some (.cells cs t (0, 0)))) (hb : Below w1.heap.size w1 w2) (ht : ∀ q, q ∈ e :: d.E → q ≠ t := by decide) (hd : Kd.R d e w base (fun k => ok k ∧ k ≠ g) u xs → Kd.R d e w1 base (fun k => ok k ∧ k ≠ g) u xs := by intro h_; (repeat (first | (with_reducible first | exact h_ | apply Kd.R_alloc | apply Kd.R_drewN | apply Kd.R_drew) | apply fa0R))) : Aside0 (Kd.R d e w2 base ok u xs) := ⟨Kd.R_below (Kd.R_mono (hd (Kd.R_types h.out b.out ht)) (fun _ h_ => h_.1)) hb⟩
theorem rcR1 (h : Aside0 (Kd.R d e w base ok (.slice A n c) xs)) (b : Aside0 (w.heap[g]? = some (.cells cs t (0, 0)))) (ht : ∀ q, q ∈ e :: d.E → q ≠ t := by decide) (hd : Kd.R d e w base (fun k => ok k ∧ k ≠ g) (.slice A n c) xs → Kd.R d e w1 base (fun k => ok k ∧ k ≠ g) (.slice A n c) xs := by intro h_; (repeat (first | (with_reducible first | exact h_ | apply Kd.R_alloc | apply Kd.R_drewN | apply Kd.R_drew) | apply fa0R))) : Kd.C d w1 A xs.length xs := (Kd.R_reads' (Kd.R_mono (hd (Kd.R_types h.out b.out ht)) (fun _ h_ => h_.1))).2.2
theorem nR2 (h : Aside0 (Kd.R d e w base ok u xs)) (g : Nat) (hm : ∀ k, ok k → k ≠ g)  (hd : Kd.R d e w base (fun k => ok k ∧ k ≠ g) u xs → Kd.R d e w1 base (fun k => ok k ∧ k ≠ g) u xs := by intro h_; (repeat (first | (with_reducible first | exact h_ | apply Kd.R_alloc | apply Kd.R_drewN | apply Kd.R_drew) | apply fa0R))) : Kd.R d e w1 base ok u xs := (Kd.R_mono (hd (Kd.R_mono h.out (fun _ hk => ⟨hk, hm _ hk⟩))) (fun _ h_ => h_.1))
theorem fa0S {j : Nat} (h : Kd.S d e w base (fun k => ok k ∧ k ≠ g) u xs) : Kd.S d e (w.setCell ⟨g, j, none⟩ v) base (fun k => ok k ∧ k ≠ g) u xs := Kd.S_far h (fun _ hk => hk.2) v
theorem nS0 (h : Aside0 (Kd.S d e w base ok u xs))   (hd : Kd.S d e w base ok u xs → Kd.S d e w1 base ok u xs := by intro h_; (repeat (first | (with_reducible first | exact h_ | apply Kd.S_alloc | apply Kd.S_drewN | apply Kd.S_drew)))) : Kd.S d e w1 base ok u xs := (hd h.out)
theorem ltS0 (h : Aside0 (Kd.S d e w base ok u xs))   (hd : Kd.S d e w base ok u xs → Kd.S d e w1 base ok u xs := by intro h_; (repeat (first | (with_reducible first | exact h_ | apply Kd.S_alloc | apply Kd.S_drewN | apply Kd.S_drew)))) : ∀ k, u.ownBlock = some k → k < w1.heap.size := Kd.S_lt (hd h.out)
theorem beS0 (h : Aside0 (Kd.S d e w base ok u xs))  (hb : Below w1.heap.size w1 w2)  (hd : Kd.S d e w base ok u xs → Kd.S d e w1 base ok u xs := by intro h_; (repeat (first | (with_reducible first | exact h_ | apply Kd.S_alloc | apply Kd.S_drewN | apply Kd.S_drew)))) : Aside0 (Kd.S d e w2 base ok u xs) := ⟨Kd.S_below (hd h.out) hb⟩
theorem elS0 (h : Aside0 (Kd.S d e w base ok u xs))  (hv : ∀ k, v.ownBlock = some k → w1.heap.size ≤ k) (hb : Below w1.heap.size w1 w2)  (hd : Kd.S d e w base ok u xs → Kd.S d e w1 base ok u xs := by intro h_; (repeat (first | (with_reducible first | exact h_ | apply Kd.S_alloc | apply Kd.S_drewN | apply Kd.S_drew)))) : Aside0 (Kd.S d e w2 base (fun k => ok k ∧ some k ≠ v.ownBlock) u xs) := ⟨Kd.S_elder' (hd h.out) hv hb⟩
theorem olS0 (h : Aside0 (Kd.S d e w base ok u xs))  (hb : Below w1.heap.size w1 w2)  (hd : Kd.S d e w base ok u xs → Kd.S d e w1 base ok u xs := by intro h_; (repeat (first | (with_reducible first | exact h_ | apply Kd.S_alloc | apply Kd.S_drewN | apply Kd.S_drew)))) : Kd.S d e w2 base (fun k => ok k ∧ k < w1.heap.size) u xs := Kd.S_old (hd h.out) hb
theorem rcS0 (h : Aside0 (Kd.S d e w base ok (.slice A n c) xs))   (hd : Kd.S d e w base ok (.slice A n c) xs → Kd.S d e w1 base ok (.slice A n c) xs := by intro h_; (repeat (first | (with_reducible first | exact h_ | apply Kd.S_alloc | apply Kd.S_drewN | apply Kd.S_drew)))) : Kd.C d w1 A xs.length xs := (Kd.S_reads' (hd h.out)).2.2
theorem ltS1 (h : Aside0 (Kd.S d e w base ok u xs)) (b : Aside0 (w.heap[g]? = some (.cells cs t (0, 0)))) (ht : ∀ q, q ∈ e :: d.E → q ≠ t := by decide) (hd : Kd.S d e w base (fun k => ok k ∧ k ≠ g) u xs → Kd.S d e w1 base (fun k => ok k ∧ k ≠ g) u xs := by intro h_; (repeat (first | (with_reducible first | exact h_ | apply Kd.S_alloc | apply Kd.S_drewN | apply Kd.S_drew) | apply fa0S))) : ∀ k, u.ownBlock = some k → k < w1.heap.size := Kd.S_lt (Kd.S_mono (hd (Kd.S_types h.out b.out ht)) (fun _ h_ => h_.1))
theorem beS1 (h : Aside0 (Kd.S d e w base ok u xs)) (b : Aside0 (w.heap[g]? = some (.cells cs t (0, 0)))) (hb : Below w1.heap.size w1 w2) (ht : ∀ q, q ∈ e :: d.E → q ≠ t := by decide) (hd : Kd.S d e w base (fun k => ok k ∧ k ≠ g) u xs → Kd.S d e w1 base (fun k => ok k ∧ k ≠ g) u xs := by intro h_; (repeat (first | (with_reducible first | exact h_ | apply Kd.S_alloc | apply Kd.S_drewN | apply Kd.S_drew) | apply fa0S))) : Aside0 (Kd.S d e w2 base ok u xs) := ⟨Kd.S_below (Kd.S_mono (hd (Kd.S_types h.out b.out ht)) (fun _ h_ => h_.1)) hb⟩
theorem elS1 (h : Aside0 (Kd.S d e w base ok u xs)) (b : Aside0 (w.heap[g]? = some (.cells cs t (0, 0)))) (hv : ∀ k, v.ownBlock = some k → w1.heap.size ≤ k) (hb : Below w1.heap.size w1 w2) (ht : ∀ q, q ∈ e :: d.E → q ≠ t := by decide) (hd : Kd.S d e w base (fun k => ok k ∧ k ≠ g) u xs → Kd.S d e w1 base (fun k => ok k ∧ k ≠ g) u xs := by intro h_; (repeat (first | (with_reducible first | exact h_ | apply Kd.S_alloc | apply Kd.S_drewN | apply Kd.S_drew) | apply fa0S))) : Aside0 (Kd.S d e w2 base (fun k => ok k ∧ some k ≠ v.ownBlock) u xs) := ⟨Kd.S_elder' (Kd.S_mono (hd (Kd.S_types h.out b.out ht)) (fun _ h_ => h_.1)) hv hb⟩
theorem rcS1 (h : Aside0 (Kd.S d e w base ok (.slice A n c) xs)) (b : Aside0 (w.heap[g]? = some (.cells cs t (0, 0)))) (ht : ∀ q, q ∈ e :: d.E → q ≠ t := by decide) (hd : Kd.S d e w base (fun k => ok k ∧ k ≠ g) (.slice A n c) xs → Kd.S d e w1 base (fun k => ok k ∧ k ≠ g) (.slice A n c) xs := by intro h_; (repeat (first | (with_reducible first | exact h_ | apply Kd.S_alloc | apply Kd.S_drewN | apply Kd.S_drew) | apply fa0S))) : Kd.C d w1 A xs.length xs := (Kd.S_reads' (Kd.S_mono (hd (Kd.S_types h.out b.out ht)) (fun _ h_ => h_.1))).2.2
theorem ltS2 (h : Aside0 (Kd.S d e w base ok u xs)) (g : Nat) (hm : ∀ k, ok k → k ≠ g)  (hd : Kd.S d e w base (fun k => ok k ∧ k ≠ g) u xs → Kd.S d e w1 base (fun k => ok k ∧ k ≠ g) u xs := by intro h_; (repeat (first | (with_reducible first | exact h_ | apply Kd.S_alloc | apply Kd.S_drewN | apply Kd.S_drew) | apply fa0S))) : ∀ k, u.ownBlock = some k → k < w1.heap.size := Kd.S_lt (Kd.S_mono (hd (Kd.S_mono h.out (fun _ hk => ⟨hk, hm _ hk⟩))) (fun _ h_ => h_.1))
theorem beS2 (h : Aside0 (Kd.S d e w base ok u xs)) (g : Nat) (hm : ∀ k, ok k → k ≠ g) (hb : Below w1.heap.size w1 w2)  (hd : Kd.S d e w base (fun k => ok k ∧ k ≠ g) u xs → Kd.S d e w1 base (fun k => ok k ∧ k ≠ g) u xs := by intro h_; (repeat (first | (with_reducible first | exact h_ | apply Kd.S_alloc | apply Kd.S_drewN | apply Kd.S_drew) | apply fa0S))) : Aside0 (Kd.S d e w2 base ok u xs) := ⟨Kd.S_below (Kd.S_mono (hd (Kd.S_mono h.out (fun _ hk => ⟨hk, hm _ hk⟩))) (fun _ h_ => h_.1)) hb⟩
theorem elS2 (h : Aside0 (Kd.S d e w base ok u xs)) (g : Nat) (hm : ∀ k, ok k → k ≠ g) (hv : ∀ k, v.ownBlock = some k → w1.heap.size ≤ k) (hb : Below w1.heap.size w1 w2)  (hd : Kd.S d e w base (fun k => ok k ∧ k ≠ g) u xs → Kd.S d e w1 base (fun k => ok k ∧ k ≠ g) u xs := by intro h_; (repeat (first | (with_reducible first | exact h_ | apply Kd.S_alloc | apply Kd.S_drewN | apply Kd.S_drew) | apply fa0S))) : Aside0 (Kd.S d e w2 base (fun k => ok k ∧ some k ≠ v.ownBlock) u xs) := ⟨Kd.S_elder' (Kd.S_mono (hd (Kd.S_mono h.out (fun _ hk => ⟨hk, hm _ hk⟩))) (fun _ h_ => h_.1)) hv hb⟩
theorem rcS2 (h : Aside0 (Kd.S d e w base ok (.slice A n c) xs)) (g : Nat) (hm : ∀ k, ok k → k ≠ g)  (hd : Kd.S d e w base (fun k => ok k ∧ k ≠ g) (.slice A n c) xs → Kd.S d e w1 base (fun k => ok k ∧ k ≠ g) (.slice A n c) xs := by intro h_; (repeat (first | (with_reducible first | exact h_ | apply Kd.S_alloc | apply Kd.S_drewN | apply Kd.S_drew) | apply fa0S))) : Kd.C d w1 A xs.length xs := (Kd.S_reads' (Kd.S_mono (hd (Kd.S_mono h.out (fun _ hk => ⟨hk, hm _ hk⟩))) (fun _ h_ => h_.1))).2.2
theorem tdS3 {v1 v2 v3 : Value} (h : Kd.S d e w1 base (fun k => ok k ∧ k < n) u xs) (h1 : ∀ k, v1.ownBlock = some k → n ≤ k) (h2 : ∀ k, v2.ownBlock = some k → n ≤ k) (h3 : ∀ k, v3.ownBlock = some k → n ≤ k) : Aside0 (Kd.S d e w1 base (fun k => (((ok k ∧ some k ≠ v1.ownBlock) ∧ some k ≠ v2.ownBlock) ∧ some k ≠ v3.ownBlock)) u xs) := ⟨Kd.S_mono (Kd.S_told (Kd.S_told (Kd.S_told h h1) h2) h3) (fun _ h_ => h_.1)⟩
theorem fa0Q {j : Nat} (h : Kd.Q d e w base (fun k => ok k ∧ k ≠ g) u xs) : Kd.Q d e (w.setCell ⟨g, j, none⟩ v) base (fun k => ok k ∧ k ≠ g) u xs := Kd.Q_far h (fun _ hk => hk.2) v
theorem ltQ0 (h : Aside0 (Kd.Q d e w base ok u xs))   (hd : Kd.Q d e w base ok u xs → Kd.Q d e w1 base ok u xs := by intro h_; (repeat (first | (with_reducible first | exact h_ | apply Kd.Q_alloc | apply Kd.Q_drewN | apply Kd.Q_drew)))) : ∀ k, u.ownBlock = some k → k < w1.heap.size := Kd.Q_lt (hd h.out)
theorem beQ0 (h : Aside0 (Kd.Q d e w base ok u xs))  (hb : Below w1.heap.size w1 w2)  (hd : Kd.Q d e w base ok u xs → Kd.Q d e w1 base ok u xs := by intro h_; (repeat (first | (with_reducible first | exact h_ | apply Kd.Q_alloc | apply Kd.Q_drewN | apply Kd.Q_drew)))) : Aside0 (Kd.Q d e w2 base ok u xs) := ⟨Kd.Q_below (hd h.out) hb⟩
theorem nQ1 (h : Aside0 (Kd.Q d e w base ok u xs)) (b : Aside0 (w.heap[g]? = some (.cells cs t (0, 0)))) (ht : ∀ q, q ∈ e :: d.E → q ≠ t := by decide) (hd : Kd.Q d e w base (fun k => ok k ∧ k ≠ g) u xs → Kd.Q d e w1 base (fun k => ok k ∧ k ≠ g) u xs := by intro h_; (repeat (first | (with_reducible first | exact h_ | apply Kd.Q_alloc | apply Kd.Q_drewN | apply Kd.Q_drew) | apply fa0Q))) : Kd.Q d e w1 base ok u xs := (Kd.Q_mono (hd (Kd.Q_types h.out b.out ht)) (fun _ h_ => h_.1))
theorem beQ1 (h : Aside0 (Kd.Q d e w base ok u xs)) (b : Aside0 (w.heap[g]? = some (.cells cs t (0, 0)))) (hb : Below w1.heap.size w1 w2) (ht : ∀ q, q ∈ e :: d.E → q ≠ t := by decide) (hd : Kd.Q d e w base (fun k => ok k ∧ k ≠ g) u xs → Kd.Q d e w1 base (fun k => ok k ∧ k ≠ g) u xs := by intro h_; (repeat (first | (with_reducible first | exact h_ | apply Kd.Q_alloc | apply Kd.Q_drewN | apply Kd.Q_drew) | apply fa0Q))) : Aside0 (Kd.Q d e w2 base ok u xs) := ⟨Kd.Q_below (Kd.Q_mono (hd (Kd.Q_types h.out b.out ht)) (fun _ h_ => h_.1)) hb⟩
theorem rnS (h : Aside0 (Kd.S d e w base ok (.slice A n c) xs)) : n ≤ c := (Kd.S_reads' h.out).2.1
theorem cn_ {a : Addr} {v : Value} {b g : Nat} (h : w.cell? a = some v) (hG : Aside0 (w.heap.size ≤ g)) (he : a.block = b := by first | exact add_block _ _ | rfl) : b ≠ g := he ▸ Nat.ne_of_lt (Nat.lt_of_lt_of_le (World.block_lt_of_cell? _ _ h) hG.out)
theorem cf_ {a : Addr} {v : Value} {b g : Nat} (j : Nat) (u : Value) (hn : b ≠ g) (h : w.cell? a = some v) (he : a.block = b := by first | exact add_block _ _ | rfl) : (w.setCell ⟨g, j, none⟩ u).cell? a = some v := (cell_far (p := ⟨g, j, none⟩) (he ▸ hn) u).trans h
end

section
variable {α : Type} {d : Kd α} {e base n : Nat} {ok : Nat → Prop} {w w1 : World} {A : Option Addr} {c : Nat} {v : Value} {xs : List α}
theorem rS (_ : Aside0 (Kd.S d e w base ok (.slice A n c) xs)) (hd : Kd.S d e w1 base ok (.slice A n c) xs := by (with_reducible repeat (first | apply Kd.S_alloc | apply Kd.S_drewN | apply Kd.S_drew)); exact Aside0.out (by first | (with_reducible assumption) | assumption)) : Kd.C d w1 A xs.length xs := (Kd.S_reads' hd).2.2
theorem rl (h : Aside0 (Kd.S d e w base ok (.slice A n c) xs)) : xs.length ≤ c := by have := (Kd.S_reads' h.out).1; have := (Kd.S_reads' h.out).2.1; omega
end

theorem rk {α : Type} {d : Kd α} {e : Nat} {w w' : World} {base : Nat} {ok S : Nat → Prop} {v : Value} {xs : List α} (h : Aside0 (Kd.R d e w base ok v xs)) (hk : Kept w w' S) (hn : ∀ k, ok k → ¬ S k) : Aside0 (Kd.R d e w' base ok v xs) := ⟨Kd.R_kept h.out hk hn⟩
theorem siv' {α : Type} {d : Kd α} {e : Nat} {w' : World} {base : Nat} {v : Value} {xs : List α} (h : Kd.S d e w' base (fun _ => True) v xs) (lo B : Nat) (hl : lo ≤ base) (hB : B ≤ base) : Aside0 (Kd.S d e w' B (fun k => lo ≤ k ∧ k < w'.heap.size) v xs) := ⟨Kd.S_lower (Kd.S_mono (Kd.S_bound h) (fun _ hk => ⟨Nat.le_trans hl hk.2.1, hk.2.2.1⟩)) hB⟩
theorem riv' {α : Type} {d : Kd α} {e : Nat} {w' : World} {base : Nat} {v : Value} {xs : List α} (h : Kd.R d e w' base (fun _ => True) v xs) (lo B : Nat) (hl : lo ≤ base) (hB : B ≤ base) : Aside0 (Kd.R d e w' B (fun k => lo ≤ k ∧ k < w'.heap.size) v xs) := ⟨Kd.R_lower (Kd.R_mono (Kd.R_bound h) (fun _ hk => ⟨Nat.le_trans hl hk.2.1, hk.2.2.1⟩)) hB⟩
section
variable {α : Type} {d : Kd α} {e base n : Nat} {ok S : Nat → Prop} {w w1 : World} {A : Option Addr} {c : Nat} {v : Value} {xs : List α}
end
theorem ins_list {α : Type} (cur inner vs : List α) (p z : Nat) (hv : vs.length = z) (hp : p ≤ inner.length) (hT : cur.take p = inner.take p) (hl : p + z ≤ cur.length) (c1 : List α) (h1 : c1 = cur.take (p + z) ++ inner.drop p ++ cur.drop (p + z + (inner.drop p).length)) :
    (c1.take p ++ vs ++ c1.drop (p + vs.length)).take (inner.length + z) = inner.take p ++ vs ++ inner.drop p := by
  have hct : (cur.take (p + z)).length = p + z := by rw [List.length_take]; omega
  have e1 : c1.take p = inner.take p := by
    rw [h1, List.append_assoc, List.take_append_of_le_length (by omega), List.take_take, Nat.min_eq_left (by omega), hT]
  have e2 : c1.drop (p + vs.length) = inner.drop p ++ cur.drop (p + z + (inner.drop p).length) := by
    rw [h1, hv, List.append_assoc, List.drop_left' hct]
  rw [e1, e2, ← List.append_assoc]
  refine List.take_left' ?_
  simp only [List.length_append, List.length_take, List.length_drop]
  omega
theorem ins_list2 {α : Type} (row inner vs : List α) (p z : Nat) (hv : vs.length = z) (hp : p ≤ inner.length) (hT : row.take p = inner.take p) (c1 : List α) (hl : p ≤ row.length) (h1 : c1 = row.take p ++ vs ++ row.drop (p + vs.length)) :
    (c1.take (p + z) ++ inner.drop p ++ c1.drop (p + z + (inner.drop p).length)).take (inner.length + z) = inner.take p ++ vs ++ inner.drop p := by
  have e1 : c1.take (p + z) = inner.take p ++ vs := by
    rw [h1, hT]
    exact List.take_left' (by simp only [List.length_append, List.length_take]; omega)
  rw [e1]
  refine List.take_left' ?_
  simp only [List.length_append, List.length_take, List.length_drop]
  omega
theorem rawR_of {sz e : Nat} {W : World} {base : Nat} {ok : Nat → Prop} {g n c : Nat} {rows : List (List Value)} {cur : Array Value} (hb : W.heap[g]? = some (.cells cur e (0, 0))) (hcs : cur.size = c * sz) (hnc : n ≤ c) (hcm : c ≤ maxLen) (hbg : base ≤ g) (hok : ok g) (hrl : rows.length = n)
    (hr : Reps (fun x cs => cs = x ∧ cs.length = sz ∧ ∀ u ∈ cs, u.oneCell' = true) sz rows (cur.toList.take (n * sz))) : (Kd.raw sz).R e W base ok (.slice (some ⟨g, 0, none⟩) n c) rows := by
  subst hrl
  exact ⟨fun k hk => by simp only [Value.ownBlock, Option.some.injEq] at hk; exact hk ▸ hok, _, ⟨hr.1, .inr ⟨g, c, cur, rfl, hbg, hb, hnc, hcm, hcs, rfl⟩⟩, hr⟩
theorem reps_ins {sz i : Nat} {rows : List (List Value)} {inner vs : List Value} (h : Reps (fun x cs => cs = x ∧ cs.length = sz ∧ ∀ u ∈ cs, u.oneCell' = true) sz rows inner) (hi : i ≤ rows.length) (hvl : vs.length = sz) (h1 : ∀ u ∈ vs, u.oneCell' = true) :
    Reps (fun x cs => cs = x ∧ cs.length = sz ∧ ∀ u ∈ cs, u.oneCell' = true) sz (rows.take i ++ [vs] ++ rows.drop i) (inner.take (i * sz) ++ vs ++ inner.drop (i * sz)) :=
  Kd.reps_append (Reps.snoc (Kd.reps_take h hi) ⟨rfl, hvl, h1⟩ hvl) (Kd.reps_drop h)
theorem grown_two (w : World) (g a b : Nat) (xs ys : List Value) : w.grownBy ((w.drew.setCells g a xs).setCells g b ys) (some g) := by
  obtain ⟨a1, a2, a3, a4⟩ := setCells_same g xs a w.drew
  obtain ⟨b1, b2, b3, b4⟩ := setCells_same g ys b (w.drew.setCells g a xs)
  exact ⟨b1.trans a1, b2.trans a2, b3.trans a3, by rw [b4, a4]; exact Nat.le_refl _, fun k _ hk => by
    have hkg : k ≠ g := fun he => hk (by rw [he])
    rw [setCells_far _ _ k hkg, setCells_far _ _ k hkg]; rfl⟩
theorem grown_alloc_two (w : World) (o : Obj) (a b : Nat) (xs ys : List Value) (row : Option Nat) : w.grownBy ((((w.alloc o).drew.setCells w.heap.size a xs).drew).setCells w.heap.size b ys) row := by
  obtain ⟨a1, a2, a3, a4⟩ := setCells_same w.heap.size xs a (w.alloc o).drew
  obtain ⟨b1, b2, b3, b4⟩ := setCells_same w.heap.size ys b ((w.alloc o).drew.setCells w.heap.size a xs).drew
  exact ⟨b1.trans a1, b2.trans a2, b3.trans a3, by rw [b4]; show _ ≤ ((w.alloc o).drew.setCells w.heap.size a xs).heap.size; rw [a4]; show _ ≤ (w.alloc o).heap.size; rw [World.size_alloc]; omega, fun k hk _ => by
    have hkg : k ≠ w.heap.size := by omega
    rw [setCells_far _ _ k hkg]
    show ((w.alloc o).drew.setCells w.heap.size a xs).heap[k]? = _
    rw [setCells_far _ _ k hkg]
    exact Below.heap_alloc w o k hk⟩
/-- A row of flat structs as raw cells, and back. -/
theorem rawR {α : Type} {d : Kd α} {e : Nat} {W : World} {base : Nat} {ok : Nat → Prop} {v : Value} {xs : List α} (enc : α → List Value) (h1 : ∀ (w : World) (b : Nat) (o : Nat → Prop) (x : α) (cs : List Value), d.M w b o x cs → cs = enc x) (h : d.R e W base ok v xs) : (Kd.raw d.sz).R e W base ok v (xs.map enc) := by
  obtain ⟨h0, inner, ho, hr⟩ := h
  refine ⟨h0, inner, by rw [List.length_map]; exact ho, by rw [List.length_map]; exact hr.1, fun j p hj => ?_⟩
  rw [List.getElem?_map] at hj
  obtain ⟨x, hx, rfl⟩ := Option.map_eq_some_iff.1 hj
  have hm := hr.2 j x hx
  have hk := d.K_of_M hm
  exact ⟨h1 _ _ _ _ _ hm, d.K_len hk, d.K_one hk⟩
theorem unrawR {α : Type} {d : Kd α} {e : Nat} {W : World} {base : Nat} {ok : Nat → Prop} {v : Value} {xs : List α} (enc : α → List Value) (h1 : ∀ (w : World) (b : Nat) (o : Nat → Prop) (x : α), d.M w b o x (enc x)) (h : (Kd.raw d.sz).R e W base ok v (xs.map enc)) : d.R e W base ok v xs := by
  obtain ⟨h0, inner, ho, hr⟩ := h
  rw [List.length_map] at ho
  have hl := hr.1
  rw [List.length_map] at hl
  refine ⟨h0, inner, ho, hl, fun j x hx => ?_⟩
  have hrow := (hr.2 j (enc x) (by rw [List.getElem?_map, hx]; rfl)).1
  show d.M _ _ _ x ((inner.drop (j * d.sz)).take d.sz)
  rw [show (inner.drop (j * d.sz)).take d.sz = enc x from hrow]
  exact h1 _ _ _ _
theorem mark_ {P : Program} {t e' e base c : Nat} {ok : Nat → Prop} {W : World} {A : Option Addr} {xs : List Int} (hu : P.underlying t = some (.slice e')) (he : P.underlying e' = some (.int .u8)) (h : Kd.R (Kd.int .u8) e W base ok (.slice A xs.length c) xs) (hx : 0 < xs.length) :
    ∃ w2, (convert t t (.slice A xs.length c)).run P W = .ok (.slice A xs.length c) w2 ∧ W.grownBy w2 (Value.slice A xs.length c).ownBlock ∧ Kd.C (Kd.int .u8) w2 A xs.length xs := by
  obtain ⟨inner, ho, hrep⟩ := h.2
  have hC := (Kd.R_reads' h).2.2
  rcases ho.2 with ⟨_, h0⟩ | ⟨g, cap, cur, hv, _, hh, _⟩
  · omega
  obtain ⟨rfl, rfl⟩ : A = some ⟨g, 0, none⟩ ∧ c = cap := by injection hv with h1 h2 h3; exact ⟨h1, h3⟩
  have hg : g < W.heap.size := blk_lt hh
  have hsh : W.shape? g = some (e, cur.size) := by unfold World.shape?; rw [hh]
  obtain ⟨w2, hw2⟩ : ∃ w2, w2 = W.freeze ⟨g, cur.size, none⟩ 1 := ⟨_, rfl⟩
  have hf : w2 = { W with heap := W.heap.modify g fun x => match x with
      | .cells c elem (lo, hi) => .cells c elem (if (lo == hi) = true then (cur.size, cur.size + 1) else (min lo cur.size, max hi (cur.size + 1)))
      | o => o } := by rw [hw2]; unfold World.freeze; rw [if_neg (by decide)]; rfl
  have hat : w2.heap[g]? = some (.cells cur e (cur.size, cur.size + 1)) := by
    rw [hf]; show (W.heap.modify g _)[g]? = _
    rw [Array.getElem?_modify, if_pos rfl, hh]; rfl
  have hoth : ∀ k, k ≠ g → w2.heap[k]? = W.heap[k]? := fun k hk => by
    rw [hf]; show (W.heap.modify g _)[k]? = _
    rw [Array.getElem?_modify, if_neg (fun h_ => hk h_.symm)]
  have hcell : ∀ a : Addr, w2.cell? a = W.cell? a := fun a => by
    unfold World.cell?
    by_cases hk : a.block = g
    · rw [hk, hat, hh]
    · rw [hoth _ hk]
  refine ⟨w2, ?_, ⟨by rw [hf], by rw [hf], by rw [hf], by rw [hf]; show _ ≤ (W.heap.modify g _).size; rw [Array.size_modify]; exact Nat.le_refl _, fun k _ hk => hoth k (fun h_ => hk (by rw [h_]; rfl))⟩, hC.1, hC.2.1, fun hn => ?_⟩
  · rw [hw2]; simp [convert, run_underlying hu, run_underlying he, markStringish, hsh]
  · obtain ⟨ad, hA, hc⟩ := hC.2.2 hn
    exact ⟨ad, hA, fun j p hj => by
      obtain ⟨cs, h1, h2, h3⟩ := hc j p hj
      exact ⟨cs, h1, h2, fun i u hi => by rw [hcell]; exact h3 i u hi⟩⟩
theorem bg_ {α : Type} {d : Kd α} {e base g t : Nat} {ok : Nat → Prop} {cs : Array Value} {w W w2 : World} {v : Value} {xs : List α} (_ : Aside0 (w.heap[g]? = some (.cells cs t (0, 0)))) (hg : W.grownBy w2 v.ownBlock) (hr : Kd.R d e W base ok v xs) (ht : e ≠ t := by decide) (hd : W.heap[g]? = some (.cells cs t (0, 0)) := by (repeat (first | (with_reducible first | refine blk_drewN ?_ _ | refine blk_drew ?_ | refine blk_alloc ?_ _) | refine blk_far ?_ (Aside0.out (by with_reducible assumption)) _)); exact Aside0.out (by first | (with_reducible assumption) | assumption)) : Aside0 (w2.heap[g]? = some (.cells cs t (0, 0))) :=
  ⟨(hg.block g (blk_lt hd) (Kd.R_ne hr hd ht)).trans hd⟩
section
variable {P : Program} {ops : Array Oper} {rest : List Oper} {o : Oper} {a : Act} {Q : Exit → Act → World → Prop}
theorem builtin_event {W w1 : World} (hgd : o.guard = none) {b : Builtin} {xs : Array Operand} {ts : Array TypeId} (_ho : o.op = .call { callee := .builtin b, args := xs, argTypes := ts }) (hN : o.dst = none) {v : Value}
    (hrun : (execOp a.eval o).run P W = .ok (.value v) w1) (h : ∀ w', w' = w1 → wpList P ops Q rest a w') : wpList P ops Q (o :: rest) a W := by
  refine wpList_plain hgd fun K hK => ?_
  unfold Oper.wp
  rw [hrun]
  show K (a.put o.dst v) w1
  rw [hN]
  exact hK _ _ (h _ rfl)
end
theorem zeroCells_one {z : Array Value} (h : ∀ v ∈ z.toList, v.oneCell' = true) (n : Nat) : ∀ v ∈ (Builtin.zeroCells z n).toList, v.oneCell' = true := by
  intro v hv
  unfold Builtin.zeroCells at hv
  simp only [Array.toList_map, List.mem_map, Array.toList_range, List.mem_range] at hv
  obtain ⟨i, hi, rfl⟩ := hv
  have hz : 0 < z.size := by
    rcases Nat.eq_zero_or_pos z.size with h0 | h0
    · rw [h0] at hi; simp at hi
    · exact h0
  have hlt := Nat.mod_lt i hz
  rw [getElem!_pos z (i % z.size) hlt]
  exact h _ (Array.getElem_mem_toList hlt)
theorem run_clear {P : Program} {w w1 : World} {t ty elem : TypeId} {z : Value} {a : Addr} {n c : Nat} (hu : P.underlying t = some (.slice elem)) (hz : (zeroValue elem).run P w = .ok z w) (hn : n ≠ 0) (hst : (storeCells a (Builtin.zeroCells z.cells n).toList).run P w = .ok () w1) :
    (Builtin.clear_ #[t] ty #[.slice (some a) n c]).run P w = .ok (.tuple #[]) w1 := by
  cases n with
  | zero => exact absurd rfl hn
  | succ n => simp [Builtin.clear_, run_underlying hu, hz, hst, Result.andThen]
def errW : Option Int → Value
  | none => .nilIface
  | some c => .iface 0 (.int .i64 c)
theorem errW_none : errW none = .nilIface := rfl
theorem errW_some (c : Int) : errW (some c) = .iface 0 (.int .i64 c) := rfl

theorem info3 : (Tryz.prog.info? 3).map (fun i => (i.zero, i.size, i.bytes)) = some (some (.int .i64 0), 1, 8) := by kernel_rfl
theorem info5 : (Tryz.prog.info? 5).map (fun i => (i.zero, i.size, i.bytes)) = some (some (.int .u8 0), 1, 1) := by kernel_rfl
theorem info9 : (Tryz.prog.info? 9).map (fun i => (i.zero, i.size, i.bytes)) = some (some (.string ⟨#[]⟩), 1, 16) := by kernel_rfl
theorem info51 : (Tryz.prog.info? 51).map (fun i => (i.zero, i.size, i.bytes)) = some (some (.agg #[(.int .i64 0), (.int .i64 0), (.int .i64 0), (.slice none 0 0), (.slice none 0 0), (.slice none 0 0)]), 6, 96) := by kernel_rfl
theorem info65 : (Tryz.prog.info? 65).map (fun i => (i.zero, i.size, i.bytes)) = some (some (.agg #[(.string ⟨#[]⟩), (.int .i64 0)]), 2, 24) := by kernel_rfl
theorem info71 : (Tryz.prog.info? 71).map (fun i => (i.zero, i.size, i.bytes)) = some (some (.agg #[(.string ⟨#[]⟩), (.string ⟨#[]⟩)]), 2, 32) := by kernel_rfl
-- the values' own types
/-! #### struct type 65 -/
structure S65 where
  f0 : ByteArray
  f1 : Int
def z65 : S65 := ⟨(⟨#[]⟩ : ByteArray), (0 : Int)⟩
def k65 : Kd S65 := Kd.iso (Kd.pair Kd.string (Kd.int .i64)) (fun x : S65 => (x.f0, x.f1))
theorem k65_open {w : World} {x : S65} {cs : List Value} (h : k65.K w x cs) : cs = [.string x.f0, .int .i64 x.f1] := by
  obtain ⟨_, _, rfl, rfl, rfl⟩ := h
  exact rfl
theorem k65_openM {w : World} {base : Nat} {ok : Nat → Prop} {x : S65} {cs : List Value} (h : k65.M w base ok x cs) : cs = [.string x.f0, .int .i64 x.f1] := by
  obtain ⟨_, _, rfl, rfl, rfl⟩ := h
  exact rfl
theorem k65_mkM (w : World) (base : Nat) (ok : Nat → Prop) (x : S65)  : k65.M w base ok x [.string x.f0, .int .i64 x.f1] := ⟨[.string x.f0], [.int .i64 x.f1], rfl, rfl, rfl⟩
def rd_T65 (xs : List S65) (i : Int) : S65 := xs.getD i.toNat z65
theorem at_T65 {w : World} {A : Option Addr} {n : Nat} {xs : List S65} (h : Kd.C k65 w A n xs) (i : Int) (h0 : 0 ≤ i) (h1 : i < n) : ∃ ad , A = some ad ∧ w.cell? (ad.add (i.toNat * 2)) = some (.string (rd_T65 xs i).f0) ∧ w.cell? ⟨(ad.add (i.toNat * 2)).block, (ad.add (i.toNat * 2)).off + 1, none⟩ = some (.int .i64 (rd_T65 xs i).f1) := by
  obtain ⟨ad, c, e, _, hK, hc0⟩ := Kd.C_get h z65 i h0 h1
  have hc : ∀ j u, c[j]? = some u → w.cell? (ad.add (i.toNat * 2 + j)) = some u := hc0
  obtain rfl := k65_open hK
  exact ⟨ad, e, hc 0 _ rfl, by rw [← add_field _ _ 1 (by omega)]; exact hc 1 _ rfl⟩

/-! #### struct type 71 -/
structure S71 where
  f0 : ByteArray
  f1 : ByteArray
def z71 : S71 := ⟨(⟨#[]⟩ : ByteArray), (⟨#[]⟩ : ByteArray)⟩
def k71 : Kd S71 := Kd.iso (Kd.pair Kd.string Kd.string) (fun x : S71 => (x.f0, x.f1))
theorem k71_open {w : World} {x : S71} {cs : List Value} (h : k71.K w x cs) : cs = [.string x.f0, .string x.f1] := by
  obtain ⟨_, _, rfl, rfl, rfl⟩ := h
  exact rfl
theorem k71_openM {w : World} {base : Nat} {ok : Nat → Prop} {x : S71} {cs : List Value} (h : k71.M w base ok x cs) : cs = [.string x.f0, .string x.f1] := by
  obtain ⟨_, _, rfl, rfl, rfl⟩ := h
  exact rfl
theorem k71_mkM (w : World) (base : Nat) (ok : Nat → Prop) (x : S71)  : k71.M w base ok x [.string x.f0, .string x.f1] := ⟨[.string x.f0], [.string x.f1], rfl, rfl, rfl⟩
def rd_T71 (xs : List S71) (i : Int) : S71 := xs.getD i.toNat z71
theorem at_T71 {w : World} {A : Option Addr} {n : Nat} {xs : List S71} (h : Kd.C k71 w A n xs) (i : Int) (h0 : 0 ≤ i) (h1 : i < n) : ∃ ad , A = some ad ∧ w.cell? (ad.add (i.toNat * 2)) = some (.string (rd_T71 xs i).f0) ∧ w.cell? ⟨(ad.add (i.toNat * 2)).block, (ad.add (i.toNat * 2)).off + 1, none⟩ = some (.string (rd_T71 xs i).f1) := by
  obtain ⟨ad, c, e, _, hK, hc0⟩ := Kd.C_get h z71 i h0 h1
  have hc : ∀ j u, c[j]? = some u → w.cell? (ad.add (i.toNat * 2 + j)) = some u := hc0
  obtain rfl := k71_open hK
  exact ⟨ad, e, hc 0 _ rfl, by rw [← add_field _ _ 1 (by omega)]; exact hc 1 _ rfl⟩

/-! #### struct type 51 -/
structure S51 where
  f0 : Int
  f1 : Int
  f2 : Int
  f3 : (List Int)
  f4 : (List S65)
  f5 : (List S71)
def z51 : S51 := ⟨(0 : Int), (0 : Int), (0 : Int), ([] : List Int), ([] : List S65), ([] : List S71)⟩
def k51 : Kd S51 := Kd.iso (Kd.pair (Kd.int .i64) (Kd.pair (Kd.int .i64) (Kd.pair (Kd.int .i64) (Kd.pair (Kd.slice 5 (Kd.int .u8)) (Kd.pair (Kd.slice 65 k65) (Kd.slice 71 k71)))))) (fun x : S51 => (x.f0, x.f1, x.f2, x.f3, x.f4, x.f5))
theorem k51_open {w : World} {x : S51} {cs : List Value} (h : k51.K w x cs) : ∃ A3 c3 A4 c4 A5 c5, cs = [.int .i64 x.f0, .int .i64 x.f1, .int .i64 x.f2, .slice A3 x.f3.length c3, .slice A4 x.f4.length c4, .slice A5 x.f5.length c5] ∧ x.f3.length ≤ c3 ∧ (Kd.int .u8).C w A3 x.f3.length x.f3 ∧ x.f4.length ≤ c4 ∧ k65.C w A4 x.f4.length x.f4 ∧ x.f5.length ≤ c5 ∧ k71.C w A5 x.f5.length x.f5 := by
  obtain ⟨_, _, rfl, rfl, ⟨_, _, rfl, rfl, ⟨_, _, rfl, rfl, ⟨_, _, rfl, ⟨A3, c3, rfl, l3, g3⟩, ⟨_, _, rfl, ⟨A4, c4, rfl, l4, g4⟩, ⟨A5, c5, rfl, l5, g5⟩⟩⟩⟩⟩⟩ := h
  exact ⟨A3, c3, A4, c4, A5, c5, rfl, l3, g3, l4, g4, l5, g5⟩
theorem k51_mkM (w : World) (base : Nat) (ok : Nat → Prop) (x : S51) {v3 : Value} (g3 : (Kd.int .u8).R 5 w base ok v3 x.f3) {v4 : Value} (g4 : k65.R 65 w base ok v4 x.f4) {v5 : Value} (g5 : k71.R 71 w base ok v5 x.f5) : k51.M w base ok x [.int .i64 x.f0, .int .i64 x.f1, .int .i64 x.f2, v3, v4, v5] := ⟨[.int .i64 x.f0], [.int .i64 x.f1, .int .i64 x.f2, v3, v4, v5], rfl, rfl, ⟨[.int .i64 x.f1], [.int .i64 x.f2, v3, v4, v5], rfl, rfl, ⟨[.int .i64 x.f2], [v3, v4, v5], rfl, rfl, ⟨[v3], [v4, v5], rfl, ⟨v3, rfl, g3⟩, ⟨[v4], [v5], rfl, ⟨v4, rfl, g4⟩, ⟨v5, rfl, g5⟩⟩⟩⟩⟩⟩
def rd_T51 (xs : List S51) (i : Int) : S51 := xs.getD i.toNat z51
theorem at_T51 {w : World} {A : Option Addr} {n : Nat} {xs : List S51} (h : Kd.C k51 w A n xs) (i : Int) (h0 : 0 ≤ i) (h1 : i < n) : ∃ ad A3 c3 A4 c4 A5 c5, A = some ad ∧ w.cell? (ad.add (i.toNat * 6)) = some (.int .i64 (rd_T51 xs i).f0) ∧ w.cell? ⟨(ad.add (i.toNat * 6)).block, (ad.add (i.toNat * 6)).off + 1, none⟩ = some (.int .i64 (rd_T51 xs i).f1) ∧ w.cell? ⟨(ad.add (i.toNat * 6)).block, (ad.add (i.toNat * 6)).off + 2, none⟩ = some (.int .i64 (rd_T51 xs i).f2) ∧ w.cell? ⟨(ad.add (i.toNat * 6)).block, (ad.add (i.toNat * 6)).off + 3, none⟩ = some (.slice A3 (rd_T51 xs i).f3.length c3) ∧ w.cell? ⟨(ad.add (i.toNat * 6)).block, (ad.add (i.toNat * 6)).off + 4, none⟩ = some (.slice A4 (rd_T51 xs i).f4.length c4) ∧ w.cell? ⟨(ad.add (i.toNat * 6)).block, (ad.add (i.toNat * 6)).off + 5, none⟩ = some (.slice A5 (rd_T51 xs i).f5.length c5) ∧ (rd_T51 xs i).f3.length ≤ c3 ∧ (Kd.int .u8).C w A3 (rd_T51 xs i).f3.length (rd_T51 xs i).f3 ∧ (rd_T51 xs i).f4.length ≤ c4 ∧ k65.C w A4 (rd_T51 xs i).f4.length (rd_T51 xs i).f4 ∧ (rd_T51 xs i).f5.length ≤ c5 ∧ k71.C w A5 (rd_T51 xs i).f5.length (rd_T51 xs i).f5 := by
  obtain ⟨ad, c, e, _, hK, hc0⟩ := Kd.C_get h z51 i h0 h1
  have hc : ∀ j u, c[j]? = some u → w.cell? (ad.add (i.toNat * 6 + j)) = some u := hc0
  obtain ⟨A3, c3, A4, c4, A5, c5, rfl, l3, g3, l4, g4, l5, g5⟩ := k51_open hK
  exact ⟨ad, A3, c3, A4, c4, A5, c5, e, hc 0 _ rfl, by rw [← add_field _ _ 1 (by omega)]; exact hc 1 _ rfl, by rw [← add_field _ _ 2 (by omega)]; exact hc 2 _ rfl, by rw [← add_field _ _ 3 (by omega)]; exact hc 3 _ rfl, by rw [← add_field _ _ 4 (by omega)]; exact hc 4 _ rfl, by rw [← add_field _ _ 5 (by omega)]; exact hc 5 _ rfl, l3, g3, l4, g4, l5, g5⟩

end Go.Proofs.YtkcfmbggdkkfeaaGreatDoor.P
