-- By this session's own program (wip/myprint.py) out of the translation; Lean checks it.
import Derived.Test.YtolkhimbfegkkaaGreatProg
import Derived.Below
import Derived.Deep.Draws
import Derived.Deep.AppendLies
import Derived.Maps.AppendAt
import Derived.OwnWalk
import Derived.Laws.BytesArg
import Derived.Laws.MakeOwn
import Derived.Laws.OwnMore
import Derived.Deep.OwnRows
import Derived.Tactics
import Derived.Lib.ConvBytes
import Derived.Laws.Slices
import Derived.WalkKit
import Derived.KernelRfl
import Derived.RowKit3
import Derived.Deep.LoopGhost
import Derived.Deep.QuietTactic
import Derived.BigQuiet
import Derived.WideLaws
import Derived.Deep.DeepCutAuto
import Derived.Deep.CutBlock
import Derived.Deep.RegionHeld3
import Derived.Laws.Rows
import Derived.Lib.AppendStr
import Derived.ArgAppend
import Derived.Laws.IdiomCopy
import Derived.OrdersHeld
import Derived.Laws.BitsLemmas
import Derived.RowKit
import Derived.Laws.Cover1
import Derived.WalkSpells
import Derived.Test.YtolkhimbfegkkaaGreatSh
import Derived.Sort.OwnSortedInts
import Derived.Test.YtolkhimbfegkkaaGreatSs
import Derived.Sort.OwnSorted
import Derived.Test.YtolkhimbfegkkaaGreatWWords
import Derived.Test.YtolkhimbfegkkaaGreatWLast
import Derived.Test.YtolkhimbfegkkaaGreatWTab
import Derived.Test.YtolkhimbfegkkaaGreatWFour
import Derived.Test.YtolkhimbfegkkaaGreatWQPut
import Derived.Test.YtolkhimbfegkkaaGreatWApart
import Derived.Test.YtolkhimbfegkkaaGreatWArr
import Derived.Test.YtolkhimbfegkkaaGreatWZeros
import Derived.Test.YtolkhimbfegkkaaGreatWFoot
import Derived.Test.YtolkhimbfegkkaaGreatWKept
import Derived.Test.YtolkhimbfegkkaaGreatWShare
import Derived.Test.YtolkhimbfegkkaaGreatWN
import Derived.Test.YtolkhimbfegkkaaGreatWFootNe
import Derived.Test.YtolkhimbfegkkaaGreatWAt
import Derived.Test.YtolkhimbfegkkaaGreatWEqStruct
import Derived.Test.YtolkhimbfegkkaaGreatWRepsOne
import Derived.Test.YtolkhimbfegkkaaGreatWInv
import Derived.Test.YtolkhimbfegkkaaGreatWInvWords
import Derived.Test.YtolkhimbfegkkaaGreatWGuard
import Derived.Test.YtolkhimbfegkkaaGreatWNEv
import Derived.Test.YtolkhimbfegkkaaGreatWMore
namespace Go.Proofs.YtolkhimbfegkkaaGreat.P
open Go.RowKit Go.Proofs.YtolkhimbfegkkaaGreatW.PrintWords Go.Proofs.YtolkhimbfegkkaaGreatW.PrintLast Go.Proofs.YtolkhimbfegkkaaGreatW.PrintMore
attribute [local go_sem] max2_int min2_int max_two min_two max_three min_three max_four min_four   -- for this text's walks alone
set_option linter.unusedVariables false
set_option linter.unusedSimpArgs false

theorem oa {p : Prop} [Decidable p] (h : decide p = true := by first | (with_reducible assumption) | assumption) : p := of_decide_eq_true h
theorem oD {p : Prop} (h : p := by repeat (first | exact Drawn0.refl _ | apply Drawn0.step)) : p := h
theorem oE {p : Prop} (h : p := by first | rfl | (simp [errW_none, errW_some] <;> rfl) | (simp [*, errW_none, errW_some] <;> rfl)) : p := h
theorem oL {p : Prop} (h : p := by (try simp only [List.map_toArray, List.map_cons, List.map_nil]); first | done | rfl | (simp only [List.length_drop, List.length_take]; rfl)) : p := h
theorem oS {p : Prop} (h : p := by first | rfl | (simp; done) | (simp [*]; done)) : p := h
theorem bA {α β : Type} {x : Option α} {f : α → Option β} {r : β} (h : x.bind f = some r) : ∃ a, Aside0 (x = some a) ∧ f a = some r := by
  obtain ⟨a, h1, h2⟩ := Option.bind_eq_some_iff.mp h
  exact ⟨a, ⟨h1⟩, h2⟩
theorem itB {α : Type} {b : Bool} {x y : Option α} {r : α} (h : (if b = true then x else y) = some r) : (b = true ∧ x = some r) ∨ (b = false ∧ y = some r) := by
  cases b
  · exact .inr ⟨rfl, by simpa using h⟩
  · exact .inl ⟨rfl, by simpa using h⟩
theorem itD {α : Type} {p : Prop} [d : Decidable p] {x y : Option α} {r : α} (h : (if p then x else y) = some r) : (decide p = true ∧ x = some r) ∨ (decide p = false ∧ y = some r) := by
  by_cases c : p
  · exact .inl ⟨decide_eq_true c, by rwa [if_pos c] at h⟩
  · exact .inr ⟨decide_eq_false c, by rwa [if_neg c] at h⟩
theorem itG {α : Type} {a b : Int} {x y : Option α} {r : α} (h : (if a > b then x else y) = some r) : (decide (b < a) = true ∧ x = some r) ∨ (decide (b < a) = false ∧ y = some r) := itD h
theorem itH {α : Type} {a b : Int} {x y : Option α} {r : α} (h : (if a ≥ b then x else y) = some r) : (decide (b ≤ a) = true ∧ x = some r) ∨ (decide (b ≤ a) = false ∧ y = some r) := itD h
theorem bs_ {w W : World} {g j : Nat} {v : Value} (h : Below w.heap.size w W) (hg : Aside0 (w.heap.size ≤ g)) : Below w.heap.size w (W.setCell ⟨g, j, none⟩ v) := below_set h hg.out
theorem oB {p : Prop} (h : p := by repeat (first | (with_reducible first | exact HB.out | apply below_alloc | apply pw_below_drewN | apply below_drew1 | refine bs_ ?_ (by with_reducible assumption)) | exact HB.out)) : p := h
theorem oQ {p : Prop} (h : p := by first | exact ⟨rfl, _, World.drewN_drewN _ _ _⟩ | exact ⟨rfl, _, Eq.trans (World.drewN_drewN _ _ _) (congrArg (World.drewN _) (Nat.add_assoc _ _ _))⟩) : p := h
theorem cB {w W : World} {a : Addr} {v : Value} (hB : Aside0 (Below w.heap.size w W)) (h : w.cell? a = some v) : W.cell? a = some v := (hB.out.cell (World.block_lt_of_cell? w _ h)).trans h
theorem oT {p : Prop} [Decidable p] (h : decide p = true := by first | (with_reducible assumption) | assumption) : p = True := eq_true (of_decide_eq_true h)
theorem bc_ {w : World} {g i : Nat} {t : TypeId} {cs : Array Value} {v : Value} (h : Aside0 (w.heap[g]? = some (.cells cs t (0, 0)))) (e : cs[i]? = some v) : w.cell? ⟨g, i, none⟩ = some v := (blk_cell h.out i).trans e
theorem oH {p : Prop} (h : p := by (repeat' (with_reducible refine And.intro ?_ ?_)) <;> (first | exact cB HB (by with_reducible assumption) | (refine bc_ (by with_reducible assumption) ?_; rfl) | (refine bc_ (Aside0.mk (blk_drewN (Aside0.out (by with_reducible assumption)) _)) ?_; rfl))) : p := h
theorem ks_ {w W : World} {S : Nat → Prop} {g j : Nat} {v : Value} (h : Kept w W S) (hg : Aside0 (w.heap.size ≤ g)) : Kept w (W.setCell ⟨g, j, none⟩ v) S := Kept.setCell h (.inr hg.out) v
theorem oK {w W : World} {S : Nat → Prop} (h : Kept w W S := by repeat (first | (with_reducible first | exact HK.out | apply Kept.alloc | apply Kept.drewN | apply Kept.drew | refine ks_ ?_ (by with_reducible assumption)) | exact HK.out)) : Kept w W S := h
theorem oF {g : Nat} {o : Obj} {w w1 : World} (_ : Aside0 (w.heap[g]? = some o)) (hd : w1.heap[g]? = some o := by (repeat (first | (with_reducible first | refine blk_drewN ?_ _ | refine blk_drew ?_ | refine blk_alloc ?_ _) | refine blk_far ?_ (Aside0.out (by with_reducible assumption)) _)); exact Aside0.out (by first | (with_reducible assumption) | assumption)) : w1.heap[g]? = some o := hd
theorem z1 {w : World} {g : Nat} {t : TypeId} {v0 : Value} (h : Aside0 (w.heap[g]? = some (.cells #[v0] t (0, 0)))) : w.cell? ⟨g, 0, none⟩ = some v0 ∧ w.frozen? ⟨g, 0, none⟩ = false := ⟨(blk_cell h.out 0).trans rfl, blk_frozen h.out 0⟩
theorem z2 {w : World} {g : Nat} {t : TypeId} {v0 v1 : Value} (h : Aside0 (w.heap[g]? = some (.cells #[v0, v1] t (0, 0)))) : (w.cell? ⟨g, 0, none⟩ = some v0 ∧ w.cell? ⟨g, 1, none⟩ = some v1) ∧ w.frozen? ⟨g, 0, none⟩ = false ∧ w.frozen? ⟨g, 1, none⟩ = false := ⟨⟨(blk_cell h.out 0).trans rfl, (blk_cell h.out 1).trans rfl⟩, blk_frozen h.out 0, blk_frozen h.out 1⟩
theorem z3 {w : World} {g : Nat} {t : TypeId} {v0 v1 v2 : Value} (h : Aside0 (w.heap[g]? = some (.cells #[v0, v1, v2] t (0, 0)))) : (w.cell? ⟨g, 0, none⟩ = some v0 ∧ w.cell? ⟨g, 1, none⟩ = some v1 ∧ w.cell? ⟨g, 2, none⟩ = some v2) ∧ w.frozen? ⟨g, 0, none⟩ = false ∧ w.frozen? ⟨g, 1, none⟩ = false ∧ w.frozen? ⟨g, 2, none⟩ = false := ⟨⟨(blk_cell h.out 0).trans rfl, (blk_cell h.out 1).trans rfl, (blk_cell h.out 2).trans rfl⟩, blk_frozen h.out 0, blk_frozen h.out 1, blk_frozen h.out 2⟩
theorem z4 {w : World} {g : Nat} {t : TypeId} {v0 v1 v2 v3 : Value} (h : Aside0 (w.heap[g]? = some (.cells #[v0, v1, v2, v3] t (0, 0)))) : (w.cell? ⟨g, 0, none⟩ = some v0 ∧ w.cell? ⟨g, 1, none⟩ = some v1 ∧ w.cell? ⟨g, 2, none⟩ = some v2 ∧ w.cell? ⟨g, 3, none⟩ = some v3) ∧ w.frozen? ⟨g, 0, none⟩ = false ∧ w.frozen? ⟨g, 1, none⟩ = false ∧ w.frozen? ⟨g, 2, none⟩ = false ∧ w.frozen? ⟨g, 3, none⟩ = false := ⟨⟨(blk_cell h.out 0).trans rfl, (blk_cell h.out 1).trans rfl, (blk_cell h.out 2).trans rfl, (blk_cell h.out 3).trans rfl⟩, blk_frozen h.out 0, blk_frozen h.out 1, blk_frozen h.out 2, blk_frozen h.out 3⟩
theorem z5 {w : World} {g : Nat} {t : TypeId} {v0 v1 v2 v3 v4 : Value} (h : Aside0 (w.heap[g]? = some (.cells #[v0, v1, v2, v3, v4] t (0, 0)))) : (w.cell? ⟨g, 0, none⟩ = some v0 ∧ w.cell? ⟨g, 1, none⟩ = some v1 ∧ w.cell? ⟨g, 2, none⟩ = some v2 ∧ w.cell? ⟨g, 3, none⟩ = some v3 ∧ w.cell? ⟨g, 4, none⟩ = some v4) ∧ w.frozen? ⟨g, 0, none⟩ = false ∧ w.frozen? ⟨g, 1, none⟩ = false ∧ w.frozen? ⟨g, 2, none⟩ = false ∧ w.frozen? ⟨g, 3, none⟩ = false ∧ w.frozen? ⟨g, 4, none⟩ = false := ⟨⟨(blk_cell h.out 0).trans rfl, (blk_cell h.out 1).trans rfl, (blk_cell h.out 2).trans rfl, (blk_cell h.out 3).trans rfl, (blk_cell h.out 4).trans rfl⟩, blk_frozen h.out 0, blk_frozen h.out 1, blk_frozen h.out 2, blk_frozen h.out 3, blk_frozen h.out 4⟩
theorem z6 {w : World} {g : Nat} {t : TypeId} {v0 v1 v2 v3 v4 v5 : Value} (h : Aside0 (w.heap[g]? = some (.cells #[v0, v1, v2, v3, v4, v5] t (0, 0)))) : (w.cell? ⟨g, 0, none⟩ = some v0 ∧ w.cell? ⟨g, 1, none⟩ = some v1 ∧ w.cell? ⟨g, 2, none⟩ = some v2 ∧ w.cell? ⟨g, 3, none⟩ = some v3 ∧ w.cell? ⟨g, 4, none⟩ = some v4 ∧ w.cell? ⟨g, 5, none⟩ = some v5) ∧ w.frozen? ⟨g, 0, none⟩ = false ∧ w.frozen? ⟨g, 1, none⟩ = false ∧ w.frozen? ⟨g, 2, none⟩ = false ∧ w.frozen? ⟨g, 3, none⟩ = false ∧ w.frozen? ⟨g, 4, none⟩ = false ∧ w.frozen? ⟨g, 5, none⟩ = false := ⟨⟨(blk_cell h.out 0).trans rfl, (blk_cell h.out 1).trans rfl, (blk_cell h.out 2).trans rfl, (blk_cell h.out 3).trans rfl, (blk_cell h.out 4).trans rfl, (blk_cell h.out 5).trans rfl⟩, blk_frozen h.out 0, blk_frozen h.out 1, blk_frozen h.out 2, blk_frozen h.out 3, blk_frozen h.out 4, blk_frozen h.out 5⟩
theorem kb_ {g : Nat} {o : Obj} {w w1 w2 : World} (_ : Aside0 (w.heap[g]? = some o)) (hb : Below w1.heap.size w1 w2) (hd : w1.heap[g]? = some o := by (repeat (first | (with_reducible first | refine blk_drewN ?_ _ | refine blk_drew ?_ | refine blk_alloc ?_ _) | refine blk_far ?_ (Aside0.out (by with_reducible assumption)) _)); exact Aside0.out (by first | (with_reducible assumption) | assumption)) : Aside0 (w2.heap[g]? = some o) := ⟨blk_below hd hb⟩
theorem nl_ {g g' : Nat} {o : Obj} {w w1 : World} (hg : g' = w1.heap.size) (_ : Aside0 (w.heap[g]? = some o)) (hd : w1.heap[g]? = some o := by (repeat (first | (with_reducible first | refine blk_drewN ?_ _ | refine blk_drew ?_ | refine blk_alloc ?_ _) | refine blk_far ?_ (Aside0.out (by with_reducible assumption)) _)); exact Aside0.out (by first | (with_reducible assumption) | assumption)) : Aside0 (g ≠ g') := ⟨by rw [hg]; exact Nat.ne_of_lt (blk_lt hd)⟩
theorem nr_ {g g' : Nat} {o : Obj} {w w1 : World} (hg : g' = w1.heap.size) (_ : Aside0 (w.heap[g]? = some o)) (hd : w1.heap[g]? = some o := by (repeat (first | (with_reducible first | refine blk_drewN ?_ _ | refine blk_drew ?_ | refine blk_alloc ?_ _) | refine blk_far ?_ (Aside0.out (by with_reducible assumption)) _)); exact Aside0.out (by first | (with_reducible assumption) | assumption)) : Aside0 (g' ≠ g) := ⟨by rw [hg]; exact Nat.ne_of_gt (blk_lt hd)⟩
theorem gs_ {g : Nat} {w W : World} (hg : g = W.heap.size) (h : Below w.heap.size w W := by repeat (first | (with_reducible first | exact HB.out | apply below_alloc | apply pw_below_drewN | apply below_drew1 | refine bs_ ?_ (by with_reducible assumption)) | exact HB.out)) : Aside0 (w.heap.size ≤ g) := ⟨by rw [hg]; exact below_size h⟩
section
variable {P : Program} {ops : Array Oper} {Q : Exit → Act → World → Prop} {rest : List Oper} {oi : Oper} {a : Act} {w : World}
theorem gl_ (N : Tmp) {f : FuncId} {fn : Func} (hf : P.funcs[f]? = some fn) {args : Array Value} {R : Ending → World → Prop} {aa : Array Operand} {ts : Array TypeId} (h : Calls P f args w R) (hn : ∀ e w', R e w' → ∃ v, e = .returned v ∧ wpList P ops Q rest (a.put (some N) v) w')
    (hop : oi.op = .call { callee := .value (.func f), args := aa, argTypes := ts } := by exact rfl) (hargs : aa.map a.eval = args := by (try simp only [List.map_toArray, List.map_cons, List.map_nil]); first | done | rfl | (simp only [List.length_drop, List.length_take]; rfl)) (hd : oi.dst = some N := by exact rfl) (hg : oi.guard = none := by exact rfl) (hname : (fn.name == "runtime.NumGoroutine") = false := by kernel_rfl) (hb : fn.body.isSome = true := by exact rfl) : wpList P ops Q (oi :: rest) a w :=
  goesL_ (some N) hd hg hf hname hb args hop hargs (h.mono hn)
theorem bx_ {W : World} (N : Tmp) (cs : Array Value) (t : TypeId)
    (h : ∀ g, g = W.heap.size → ∀ w1, w1.heap[g]? = some (.cells cs t (0, 0)) → Below W.heap.size W w1 → wpList P ops Q rest (a.put oi.dst (.pointer (some ⟨g, 0, none⟩))) w1) (hgd : oi.guard = none := by exact rfl) (hd : oi.dst = some N := by exact rfl)
    (hrun : (execOp a.eval oi).run P W = .ok (.value (.pointer (some ⟨W.heap.size, 0, none⟩))) (W.alloc (.cells cs t (0, 0))) := by first | (go_simp; done) | (go_simp; rfl)) : wpList P ops Q (oi :: rest) a W := box_event hgd hd hrun h
end
section
variable {α : Type} {d : Kd α} {e base n : Nat} {ok okv : Nat → Prop} {w w1 w2 : World} {A : Option Addr} {c : Nat} {u v : Value} {xs : List α}
theorem ke_ {β : Type} {d' : Kd β} {e' : Nat} {ys : List β} (_ : Aside0 (d.R e w base ok u xs)) (ho : d'.R e' w2 w1.heap.size okv v ys) (hb : Below w1.heap.size w1 w2) (hd : d.R e w1 base ok u xs := by (with_reducible repeat (first | apply Kd.R_alloc | apply Kd.R_drewN | apply Kd.R_drew)); exact Aside0.out (by first | (with_reducible assumption) | assumption)) : Aside0 (d.R e w2 base (fun k => ok k ∧ some k ≠ v.ownBlock) u xs) := ⟨Kd.R_elder' hd (Kd.R_base ho) hb⟩
theorem kr_ (_ : Aside0 (d.R e w base ok u xs)) (hb : Below w1.heap.size w1 w2) (hd : d.R e w1 base ok u xs := by (with_reducible repeat (first | apply Kd.R_alloc | apply Kd.R_drewN | apply Kd.R_drew)); exact Aside0.out (by first | (with_reducible assumption) | assumption)) : Aside0 (d.R e w2 base ok u xs) := ⟨Kd.R_below hd hb⟩
theorem kl_ (_ : Aside0 (d.R e w base ok u xs)) (hd : d.R e w1 base ok u xs := by (with_reducible repeat (first | apply Kd.R_alloc | apply Kd.R_drewN | apply Kd.R_drew)); exact Aside0.out (by first | (with_reducible assumption) | assumption)) : ∀ k, u.ownBlock = some k → k < w1.heap.size := Kd.R_lt hd
theorem oR (_ : Aside0 (d.R e w base ok u xs)) (hd : d.R e w1 base ok u xs := by (with_reducible repeat (first | apply Kd.R_alloc | apply Kd.R_drewN | apply Kd.R_drew)); exact Aside0.out (by first | (with_reducible assumption) | assumption)) : d.R e w1 base ok u xs := hd
theorem kC (h : Aside0 (Kd.C d w A n xs)) (hb : Below w.heap.size w w1 := by repeat (first | (with_reducible first | exact HB.out | apply below_alloc | apply pw_below_drewN | apply below_drew1 | refine bs_ ?_ (by with_reducible assumption)) | exact HB.out)) : Kd.C d w1 A n xs := Kd.C_below h.out hb
theorem kO (_ : Aside0 (d.R e w base ok (.slice A n c) xs)) (hd : d.R e w1 base ok (.slice A n c) xs := by (with_reducible repeat (first | apply Kd.R_alloc | apply Kd.R_drewN | apply Kd.R_drew)); exact Aside0.out (by first | (with_reducible assumption) | assumption)) : Kd.C d w1 A xs.length xs := (Kd.R_reads' hd).2.2
theorem ko (h : Aside0 (d.R e w base ok (.slice A n c) xs)) : n ≤ c := (Kd.R_reads' h.out).2.1
end
section
variable {P : Program} {ops : Array Oper} {Q : Exit → Act → World → Prop} {md : Region.Mode} {S : World → Prop} {ds : List Nat} {T : Bool × List (List Nat × List Nat)} {B : List Nat}
def lb (n m : Nat) : Array Bool := ((List.range n).map fun i => m.testBit i).toArray
theorem st_ {id : Nat} {a : Act} {w : World} {T : Bool × List (List Nat × List Nat)} {B : List Nat} (n : Nat) (S : World → Prop) (hT : rtab .any ops = T) (hB : waitsOk T.2 B = true) (hS : S w.drew)
    (h : S w.drew → Aside0 (rtab .any ops = T) → Aside0 (waitsOk T.2 B = true) → wpAnyLast P .any ops Q S [] n (lb n 0) a w.drew) (hm : P.follows .mixedOrders = true := by kernel_rfl) (hn : ops.size = n := by exact rfl) (hl : Array.replicate n false = lb n 0 := by exact rfl) : (Code.region id ops true).wp P Q a w :=
  start_ (lb n 0) hm hn hl hS (fun hh => h hh ⟨hT⟩ ⟨hB⟩)
theorem pu_ {n m : Nat} (i : Nat) (N : Tmp) {oi : Oper} {v : Value} {fuel : Nat} {a a' : Act} {w : World} (HT : Aside0 (rtab md ops = T)) (h : wpAnyLast P md ops Q S ds fuel (lb n (m ||| 1 <<< i)) a' w) (hi : ops[i]? = some oi := by exact rfl) (hN : oi.dst = some N := by exact rfl)
    (hc : anyT T (lb n m).toList (lb n (m ||| 1 <<< i)).toList i = true := by kernel_rfl) (hQ : ∀ c a w, Q (.panic c) (a.put oi.dst v) w → Q (.panic c) a w := by exact fun _ _ _ h => h) (hg : Region.wanted oi (yielded ops a.tmps) = true := by exact rfl) (hy : ∀ w, (execOp a.eval oi).run P w = .ok (.value v) w := by intro w'; go_simp; with_reducible rfl)
    (ha : a.put (some N) v = a' := by simp only [Act.put, List.setIfInBounds_toArray, List.set_cons_zero, List.set_cons_succ, i64_w, i32_w]; rfl) : wpAnyLast P md ops Q S ds (fuel + 1) (lb n m) a w := pure_ _ hi hN (any_of HT.out hc) hQ (.inl ⟨hg, hy⟩) ha h
theorem ta_ {n m : Nat} (i : Nat) (N : Tmp) {oi : Oper} {v : Value} {fuel : Nat} {a a' : Act} {w : World} (HT : Aside0 (rtab md ops = T)) (HW : Aside0 (waitsOk T.2 B = true)) (hS : S w) (h : wpAnyLast P md ops Q S ds fuel (lb n (m ||| 1 <<< i)) a' w) (hi : ops[i]? = some oi := by exact rfl) (hN : oi.dst = some N := by exact rfl)
    (hc : takeW T B ds (lb n m).toList (lb n (m ||| 1 <<< i)).toList i = true := by kernel_rfl) (hQ : ∀ c a w, Q (.panic c) (a.put oi.dst v) w → Q (.panic c) a w := by exact fun _ _ _ h => h) (hg : Region.wanted oi (yielded ops a.tmps) = true := by exact rfl)
    (hy : ∀ w, S w → (execOp a.eval oi).run P w = .ok (.value v) w := by intro w' hS_; (try dsimp only at hS_); (repeat (have s_ := And.left hS_; replace hS_ := And.right hS_)); go_simp; with_reducible rfl)
    (ha : a.put (some N) v = a' := by simp only [Act.put, List.setIfInBounds_toArray, List.set_cons_zero, List.set_cons_succ, i64_w, i32_w]; rfl) : wpAnyLast P md ops Q S ds (fuel + 1) (lb n m) a w := take_ _ hi hN (take_ofW HT.out HW.out hc) hQ (.inl ⟨hg, hy⟩) hS ha h
theorem on_ {n m : Nat} (i : Nat) (N : Tmp) {oi : Oper} {fuel : Nat} {a : Act} {w : World} (HT : Aside0 (rtab md ops = T))
    (h : ∀ K : Act → World → Prop, Shut (∀ a' w', S w' → (S w' → wpAnyLast P md ops Q S ds fuel (lb n (m ||| 1 <<< i)) a' w') → K a' w') → if Region.wanted oi (yielded ops a.tmps) = true then Oper.wp P oi a w K Q else K (a.put (some N) undef) w)
    (hi : ops[i]? = some oi := by exact rfl) (hN : oi.dst = some N := by exact rfl) (hc : (readyT T.2 (lb n m).toList == [i] && (lb n m).toList.set i true == (lb n (m ||| 1 <<< i)).toList) = true := by kernel_rfl) (hd : i ∉ ds := by decide) : wpAnyLast P md ops Q S ds (fuel + 1) (lb n m) a w :=
  one_ _ hi hN (one_of HT.out hc) hd h
theorem dn_ {n m : Nat} {fuel : Nat} {a : Act} {w : World} (HT : Aside0 (rtab md ops = T)) (h : Q .normal a w) (hr : (readyT T.2 (lb n m).toList == []) = true := by kernel_rfl) : wpAnyLast P md ops Q S ds fuel (lb n m) a w := done_ (done_of HT.out hr) h
theorem gr_ (N : Tmp) {oi : Oper} {a : Act} {w : World} {K : Act → World → Prop} {f : FuncId} {fn : Func} (hf : P.funcs[f]? = some fn) {args : Array Value} {R : Ending → World → Prop} {aa : Array Operand} {ts : Array TypeId} (h : Calls P f args w R)
    (hn : ∀ e w', R e w' → ∃ v, e = .returned v ∧ K (a.put (some N) v) w') (hop : oi.op = .call { callee := .value (.func f), args := aa, argTypes := ts } := by exact rfl) (hargs : aa.map a.eval = args := by (try simp only [List.map_toArray, List.map_cons, List.map_nil]); first | done | rfl | (simp only [List.length_drop, List.length_take]; rfl)) (hw : Region.wanted oi (yielded ops a.tmps) = true := by exact rfl) (hd : oi.dst = some N := by exact rfl)
    (hname : (fn.name == "runtime.NumGoroutine") = false := by kernel_rfl) (hb : fn.body.isSome = true := by exact rfl) :
    if Region.wanted oi (yielded ops a.tmps) = true then Oper.wp P oi a w K Q else K (a.put (some N) undef) w := goes_ hf hname hb args hw hd hop hargs (h.mono hn)
theorem hk_ {K W : Act → World → Prop} {S : World → Prop} (hK : Shut (∀ a w, S w → (S w → W a w) → K a w)) (N : Tmp) {a a' : Act} {v : Value} {w : World} (hS : S w) (h : S w → W a' w) (ha : a.put (some N) v = a' := by simp only [Act.put, List.setIfInBounds_toArray, List.set_cons_zero, List.set_cons_succ, i64_w, i32_w]; rfl) : K (a.put (some N) v) w := by
  rw [ha]
  exact hK.out _ _ hS h
end

theorem oP {g : Nat} {cs cs' : Array Value} {t : TypeId} {w w1 : World} (_ : Aside0 (w.heap[g]? = some (.cells cs t (0, 0)))) (hd : w1.heap[g]? = some (.cells cs' t (0, 0)) := by (repeat (first | (with_reducible first | refine blk_drewN ?_ _ | refine blk_drew ?_ | refine blk_alloc ?_ _) | (apply blk_far; rotate_left; exact Aside0.out (by with_reducible assumption); rotate_right) | apply blk_put)); (first | exact Aside0.out (by with_reducible assumption) | exact Aside0.out (by assumption)); (all_goals exact rfl)) : w1.heap[g]? = some (.cells cs' t (0, 0)) := hd
theorem kp_ {g : Nat} {cs : Array Value} {t : TypeId} {w w1 w2 : World} (cs' : Array Value) (_ : Aside0 (w.heap[g]? = some (.cells cs t (0, 0)))) (hb : Below w1.heap.size w1 w2) (hd : w1.heap[g]? = some (.cells cs' t (0, 0)) := by (repeat (first | (with_reducible first | refine blk_drewN ?_ _ | refine blk_drew ?_ | refine blk_alloc ?_ _) | (apply blk_far; rotate_left; exact Aside0.out (by with_reducible assumption); rotate_right) | apply blk_put)); (first | exact Aside0.out (by with_reducible assumption) | exact Aside0.out (by assumption)); (all_goals exact rfl)) : Aside0 (w2.heap[g]? = some (.cells cs' t (0, 0))) := ⟨blk_below hd hb⟩
theorem kw_ {g : Nat} {o : Obj} {w w1 w2 : World} (hW : w1 = w2) (_ : Aside0 (w.heap[g]? = some o)) (hd : w1.heap[g]? = some o := by (repeat (first | (with_reducible first | refine blk_drewN ?_ _ | refine blk_drew ?_ | refine blk_alloc ?_ _) | refine blk_far ?_ (Aside0.out (by with_reducible assumption)) _)); exact Aside0.out (by first | (with_reducible assumption) | assumption)) : Aside0 (w2.heap[g]? = some o) := ⟨hW ▸ hd⟩
theorem kv_ {g : Nat} {cs : Array Value} {t : TypeId} {w w1 w2 : World} (cs' : Array Value) (hW : w1 = w2) (_ : Aside0 (w.heap[g]? = some (.cells cs t (0, 0)))) (hd : w1.heap[g]? = some (.cells cs' t (0, 0)) := by (repeat (first | (with_reducible first | refine blk_drewN ?_ _ | refine blk_drew ?_ | refine blk_alloc ?_ _) | (apply blk_far; rotate_left; exact Aside0.out (by with_reducible assumption); rotate_right) | apply blk_put)); (first | exact Aside0.out (by with_reducible assumption) | exact Aside0.out (by assumption)); (all_goals exact rfl)) : Aside0 (w2.heap[g]? = some (.cells cs' t (0, 0))) := ⟨hW ▸ hd⟩
theorem hw_ {w w0 w1 w2 : World} (hW : w1 = w2) (_ : Aside0 (Below w.heap.size w w0)) (hd : Below w.heap.size w w1 := by repeat (first | (with_reducible first | exact HB.out | apply below_alloc | apply pw_below_drewN | apply below_drew1 | refine bs_ ?_ (by with_reducible assumption)) | exact HB.out)) : Aside0 (Below w.heap.size w w2) := ⟨hW ▸ hd⟩
section
variable {P : Program} {ops : Array Oper} {Q : Exit → Act → World → Prop} {md : Region.Mode} {S : World → Prop} {ds : List Nat} {T : Bool × List (List Nat × List Nat)} {B : List Nat}
theorem pn_ {n m : Nat} (i : Nat) (N : Tmp) {oi : Oper} {fuel : Nat} {a a' : Act} {w : World} (HT : Aside0 (rtab md ops = T)) (h : wpAnyLast P md ops Q S ds fuel (lb n (m ||| 1 <<< i)) a' w) (hi : ops[i]? = some oi := by exact rfl) (hN : oi.dst = some N := by exact rfl)
    (hc : anyT T (lb n m).toList (lb n (m ||| 1 <<< i)).toList i = true := by kernel_rfl) (hQ : ∀ c a w, Q (.panic c) (a.put oi.dst undef) w → Q (.panic c) a w := by exact fun _ _ _ h => h) (hg : Region.wanted oi (yielded ops a.tmps) = false := by exact rfl)
    (ha : a.put (some N) undef = a' := by simp only [Act.put, List.setIfInBounds_toArray, List.set_cons_zero, List.set_cons_succ, i64_w, i32_w]; rfl) : wpAnyLast P md ops Q S ds (fuel + 1) (lb n m) a w := pure_ _ hi hN (any_of HT.out hc) hQ (.inr ⟨hg, rfl⟩) ha h
theorem p0_ {n m : Nat} (i : Nat) (N : Tmp) {oi : Oper} {v : Value} {fuel : Nat} {a a' : Act} {w : World} (h : wpAnyLast P md ops Q S ds fuel (lb n (m ||| 1 <<< i)) a' w) (hi : ops[i]? = some oi := by exact rfl) (hN : oi.dst = some N := by exact rfl)
    (hc : anyB md ops (lb n m) (lb n (m ||| 1 <<< i)) i = true := by kernel_rfl) (hQ : ∀ c a w, Q (.panic c) (a.put oi.dst v) w → Q (.panic c) a w := by exact fun _ _ _ h => h) (hg : Region.wanted oi (yielded ops a.tmps) = true := by exact rfl) (hy : ∀ w, (execOp a.eval oi).run P w = .ok (.value v) w := by intro w'; go_simp; with_reducible rfl)
    (ha : a.put (some N) v = a' := by simp only [Act.put, List.setIfInBounds_toArray, List.set_cons_zero, List.set_cons_succ, i64_w, i32_w]; rfl) : wpAnyLast P md ops Q S ds (fuel + 1) (lb n m) a w := pure_ _ hi hN hc hQ (.inl ⟨hg, hy⟩) ha h
theorem t0_ {n m : Nat} (i : Nat) (N : Tmp) {oi : Oper} {v : Value} {fuel : Nat} {a a' : Act} {w : World} (hS : S w) (h : wpAnyLast P md ops Q S ds fuel (lb n (m ||| 1 <<< i)) a' w) (hi : ops[i]? = some oi := by exact rfl) (hN : oi.dst = some N := by exact rfl)
    (hc : takeB md ops ds (lb n m) (lb n (m ||| 1 <<< i)) i = true := by kernel_rfl) (hQ : ∀ c a w, Q (.panic c) (a.put oi.dst v) w → Q (.panic c) a w := by exact fun _ _ _ h => h) (hg : Region.wanted oi (yielded ops a.tmps) = true := by exact rfl)
    (hy : ∀ w, S w → (execOp a.eval oi).run P w = .ok (.value v) w := by intro w' hS_; (try dsimp only at hS_); (repeat (have s_ := And.left hS_; replace hS_ := And.right hS_)); go_simp; with_reducible rfl)
    (ha : a.put (some N) v = a' := by simp only [Act.put, List.setIfInBounds_toArray, List.set_cons_zero, List.set_cons_succ, i64_w, i32_w]; rfl) : wpAnyLast P md ops Q S ds (fuel + 1) (lb n m) a w := take_ _ hi hN hc hQ (.inl ⟨hg, hy⟩) hS ha h
theorem o0_ {n m : Nat} (i : Nat) (N : Tmp) {oi : Oper} {fuel : Nat} {a : Act} {w : World}
    (h : ∀ K : Act → World → Prop, Shut (∀ a' w', S w' → (S w' → wpAnyLast P md ops Q S ds fuel (lb n (m ||| 1 <<< i)) a' w') → K a' w') → if Region.wanted oi (yielded ops a.tmps) = true then Oper.wp P oi a w K Q else K (a.put (some N) undef) w)
    (hi : ops[i]? = some oi := by exact rfl) (hN : oi.dst = some N := by exact rfl) (hc : readyB md ops (lb n m) (lb n (m ||| 1 <<< i)) i = true := by kernel_rfl) (hd : i ∉ ds := by decide) : wpAnyLast P md ops Q S ds (fuel + 1) (lb n m) a w := one_ _ hi hN hc hd h
theorem s0_ {id : Nat} {a : Act} {w : World} (n : Nat) (S : World → Prop) (hS : S w.drew) (h : S w.drew → wpAnyLast P .any ops Q S [] n (lb n 0) a w.drew) (hm : P.follows .mixedOrders = true := by kernel_rfl) (hn : ops.size = n := by exact rfl) (hl : Array.replicate n false = lb n 0 := by exact rfl) : (Code.region id ops true).wp P Q a w :=
  start_ (lb n 0) hm hn hl hS h
end

section
variable {α : Type} {d : Kd α} {e base n g t g2 t2 : Nat} {ok : Nat → Prop} {cs cs2 : Array Value} {w w1 w2 : World} {A : Option Addr} {c : Nat} {u v : Value} {xs : List α}
theorem fa0R {j : Nat} (h : Kd.R d e w base (fun k => ok k ∧ k ≠ g) u xs) : Kd.R d e (w.setCell ⟨g, j, none⟩ v) base (fun k => ok k ∧ k ≠ g) u xs := Kd.R_far h (fun _ hk => hk.2) v
theorem nR0 (h : Aside0 (Kd.R d e w base ok u xs))   (hd : Kd.R d e w base ok u xs → Kd.R d e w1 base ok u xs := by intro h_; (repeat (first | (with_reducible first | exact h_ | apply Kd.R_alloc | apply Kd.R_drewN | apply Kd.R_drew)))) : Kd.R d e w1 base ok u xs := (hd h.out)
theorem beR0 (h : Aside0 (Kd.R d e w base ok u xs))  (hb : Below w1.heap.size w1 w2)  (hd : Kd.R d e w base ok u xs → Kd.R d e w1 base ok u xs := by intro h_; (repeat (first | (with_reducible first | exact h_ | apply Kd.R_alloc | apply Kd.R_drewN | apply Kd.R_drew)))) : Aside0 (Kd.R d e w2 base ok u xs) := ⟨Kd.R_below (hd h.out) hb⟩
theorem nR1 (h : Aside0 (Kd.R d e w base ok u xs)) (b : Aside0 (w.heap[g]? = some (.cells cs t (0, 0)))) (ht : ∀ q, q ∈ e :: d.E → q ≠ t := by decide) (hd : Kd.R d e w base (fun k => ok k ∧ k ≠ g) u xs → Kd.R d e w1 base (fun k => ok k ∧ k ≠ g) u xs := by intro h_; (repeat (first | (with_reducible first | exact h_ | apply Kd.R_alloc | apply Kd.R_drewN | apply Kd.R_drew) | apply fa0R))) : Kd.R d e w1 base ok u xs := (Kd.R_mono (hd (Kd.R_types h.out b.out ht)) (fun _ h_ => h_.1))
theorem ltR1 (h : Aside0 (Kd.R d e w base ok u xs)) (b : Aside0 (w.heap[g]? = some (.cells cs t (0, 0)))) (ht : ∀ q, q ∈ e :: d.E → q ≠ t := by decide) (hd : Kd.R d e w base (fun k => ok k ∧ k ≠ g) u xs → Kd.R d e w1 base (fun k => ok k ∧ k ≠ g) u xs := by intro h_; (repeat (first | (with_reducible first | exact h_ | apply Kd.R_alloc | apply Kd.R_drewN | apply Kd.R_drew) | apply fa0R))) : ∀ k, u.ownBlock = some k → k < w1.heap.size := Kd.R_lt (Kd.R_mono (hd (Kd.R_types h.out b.out ht)) (fun _ h_ => h_.1))
theorem beR1 (h : Aside0 (Kd.R d e w base ok u xs)) (b : Aside0 (w.heap[g]? = some (.cells cs t (0, 0)))) (hb : Below w1.heap.size w1 w2) (ht : ∀ q, q ∈ e :: d.E → q ≠ t := by decide) (hd : Kd.R d e w base (fun k => ok k ∧ k ≠ g) u xs → Kd.R d e w1 base (fun k => ok k ∧ k ≠ g) u xs := by intro h_; (repeat (first | (with_reducible first | exact h_ | apply Kd.R_alloc | apply Kd.R_drewN | apply Kd.R_drew) | apply fa0R))) : Aside0 (Kd.R d e w2 base ok u xs) := ⟨Kd.R_below (Kd.R_mono (hd (Kd.R_types h.out b.out ht)) (fun _ h_ => h_.1)) hb⟩
theorem elR1 (h : Aside0 (Kd.R d e w base ok u xs)) (b : Aside0 (w.heap[g]? = some (.cells cs t (0, 0)))) (hv : ∀ k, v.ownBlock = some k → w1.heap.size ≤ k) (hb : Below w1.heap.size w1 w2) (ht : ∀ q, q ∈ e :: d.E → q ≠ t := by decide) (hd : Kd.R d e w base (fun k => ok k ∧ k ≠ g) u xs → Kd.R d e w1 base (fun k => ok k ∧ k ≠ g) u xs := by intro h_; (repeat (first | (with_reducible first | exact h_ | apply Kd.R_alloc | apply Kd.R_drewN | apply Kd.R_drew) | apply fa0R))) : Aside0 (Kd.R d e w2 base (fun k => ok k ∧ some k ≠ v.ownBlock) u xs) := ⟨Kd.R_elder' (Kd.R_mono (hd (Kd.R_types h.out b.out ht)) (fun _ h_ => h_.1)) hv hb⟩
theorem rcR1 (h : Aside0 (Kd.R d e w base ok (.slice A n c) xs)) (b : Aside0 (w.heap[g]? = some (.cells cs t (0, 0)))) (ht : ∀ q, q ∈ e :: d.E → q ≠ t := by decide) (hd : Kd.R d e w base (fun k => ok k ∧ k ≠ g) (.slice A n c) xs → Kd.R d e w1 base (fun k => ok k ∧ k ≠ g) (.slice A n c) xs := by intro h_; (repeat (first | (with_reducible first | exact h_ | apply Kd.R_alloc | apply Kd.R_drewN | apply Kd.R_drew) | apply fa0R))) : Kd.C d w1 A xs.length xs := (Kd.R_reads' (Kd.R_mono (hd (Kd.R_types h.out b.out ht)) (fun _ h_ => h_.1))).2.2
theorem nR2 (h : Aside0 (Kd.R d e w base ok u xs)) (g : Nat) (hm : ∀ k, ok k → k ≠ g)  (hd : Kd.R d e w base (fun k => ok k ∧ k ≠ g) u xs → Kd.R d e w1 base (fun k => ok k ∧ k ≠ g) u xs := by intro h_; (repeat (first | (with_reducible first | exact h_ | apply Kd.R_alloc | apply Kd.R_drewN | apply Kd.R_drew) | apply fa0R))) : Kd.R d e w1 base ok u xs := (Kd.R_mono (hd (Kd.R_mono h.out (fun _ hk => ⟨hk, hm _ hk⟩))) (fun _ h_ => h_.1))
theorem olS0 (h : Aside0 (Kd.S d e w base ok u xs))  (hb : Below w1.heap.size w1 w2)  (hd : Kd.S d e w base ok u xs → Kd.S d e w1 base ok u xs := by intro h_; (repeat (first | (with_reducible first | exact h_ | apply Kd.S_alloc | apply Kd.S_drewN | apply Kd.S_drew)))) : Kd.S d e w2 base (fun k => ok k ∧ k < w1.heap.size) u xs := Kd.S_old (hd h.out) hb
theorem tdS3 {v1 v2 v3 : Value} (h : Kd.S d e w1 base (fun k => ok k ∧ k < n) u xs) (h1 : ∀ k, v1.ownBlock = some k → n ≤ k) (h2 : ∀ k, v2.ownBlock = some k → n ≤ k) (h3 : ∀ k, v3.ownBlock = some k → n ≤ k) : Aside0 (Kd.S d e w1 base (fun k => (((ok k ∧ some k ≠ v1.ownBlock) ∧ some k ≠ v2.ownBlock) ∧ some k ≠ v3.ownBlock)) u xs) := ⟨Kd.S_mono (Kd.S_told (Kd.S_told (Kd.S_told h h1) h2) h3) (fun _ h_ => h_.1)⟩
theorem fa0Q {j : Nat} (h : Kd.Q d e w base (fun k => ok k ∧ k ≠ g) u xs) : Kd.Q d e (w.setCell ⟨g, j, none⟩ v) base (fun k => ok k ∧ k ≠ g) u xs := Kd.Q_far h (fun _ hk => hk.2) v
theorem ltQ0 (h : Aside0 (Kd.Q d e w base ok u xs))   (hd : Kd.Q d e w base ok u xs → Kd.Q d e w1 base ok u xs := by intro h_; (repeat (first | (with_reducible first | exact h_ | apply Kd.Q_alloc | apply Kd.Q_drewN | apply Kd.Q_drew)))) : ∀ k, u.ownBlock = some k → k < w1.heap.size := Kd.Q_lt (hd h.out)
theorem beQ0 (h : Aside0 (Kd.Q d e w base ok u xs))  (hb : Below w1.heap.size w1 w2)  (hd : Kd.Q d e w base ok u xs → Kd.Q d e w1 base ok u xs := by intro h_; (repeat (first | (with_reducible first | exact h_ | apply Kd.Q_alloc | apply Kd.Q_drewN | apply Kd.Q_drew)))) : Aside0 (Kd.Q d e w2 base ok u xs) := ⟨Kd.Q_below (hd h.out) hb⟩
theorem nQ1 (h : Aside0 (Kd.Q d e w base ok u xs)) (b : Aside0 (w.heap[g]? = some (.cells cs t (0, 0)))) (ht : ∀ q, q ∈ e :: d.E → q ≠ t := by decide) (hd : Kd.Q d e w base (fun k => ok k ∧ k ≠ g) u xs → Kd.Q d e w1 base (fun k => ok k ∧ k ≠ g) u xs := by intro h_; (repeat (first | (with_reducible first | exact h_ | apply Kd.Q_alloc | apply Kd.Q_drewN | apply Kd.Q_drew) | apply fa0Q))) : Kd.Q d e w1 base ok u xs := (Kd.Q_mono (hd (Kd.Q_types h.out b.out ht)) (fun _ h_ => h_.1))
theorem beQ1 (h : Aside0 (Kd.Q d e w base ok u xs)) (b : Aside0 (w.heap[g]? = some (.cells cs t (0, 0)))) (hb : Below w1.heap.size w1 w2) (ht : ∀ q, q ∈ e :: d.E → q ≠ t := by decide) (hd : Kd.Q d e w base (fun k => ok k ∧ k ≠ g) u xs → Kd.Q d e w1 base (fun k => ok k ∧ k ≠ g) u xs := by intro h_; (repeat (first | (with_reducible first | exact h_ | apply Kd.Q_alloc | apply Kd.Q_drewN | apply Kd.Q_drew) | apply fa0Q))) : Aside0 (Kd.Q d e w2 base ok u xs) := ⟨Kd.Q_below (Kd.Q_mono (hd (Kd.Q_types h.out b.out ht)) (fun _ h_ => h_.1)) hb⟩
theorem cn_ {a : Addr} {v : Value} {b g : Nat} (h : w.cell? a = some v) (hG : Aside0 (w.heap.size ≤ g)) (he : a.block = b := by first | exact add_block _ _ | rfl) : b ≠ g := he ▸ Nat.ne_of_lt (Nat.lt_of_lt_of_le (World.block_lt_of_cell? _ _ h) hG.out)
theorem cf_ {a : Addr} {v : Value} {b g : Nat} (j : Nat) (u : Value) (hn : b ≠ g) (h : w.cell? a = some v) (he : a.block = b := by first | exact add_block _ _ | rfl) : (w.setCell ⟨g, j, none⟩ u).cell? a = some v := (cell_far (p := ⟨g, j, none⟩) (he ▸ hn) u).trans h
end

theorem bnew {w w' : World} {cs : Array Value} {t : TypeId} (hb : Below (w.alloc (.cells cs t (0, 0))).heap.size (w.alloc (.cells cs t (0, 0))) w') : Aside0 (w'.heap[w.heap.size]? = some (.cells cs t (0, 0))) := ⟨blk_below (blk_new _ _) hb⟩
theorem bold {w w' : World} {o : Obj} (hb : Below (w.alloc o).heap.size (w.alloc o) w') : Below w.heap.size w w' := below_step (below_alloc (Below.refl _ _) o) hb
theorem bstep {w w' : World} {g : Nat} {o : Obj} (h : Aside0 (w.heap[g]? = some o)) (hb : Below w.heap.size w w') : Aside0 (w'.heap[g]? = some o) := ⟨blk_below h.out hb⟩
theorem ball {w : World} {g : Nat} {o : Obj} (h : Aside0 (w.heap[g]? = some o)) (o' : Obj) : Aside0 ((w.alloc o').heap[g]? = some o) := ⟨blk_alloc h.out o'⟩
theorem bkept {w w' : World} {g : Nat} {o : Obj} {S : Nat → Prop} (h : Aside0 (w.heap[g]? = some o)) (hk : Kept w w' S) (hn : ¬ S g) : Aside0 (w'.heap[g]? = some o) := ⟨blk_kept h.out hk hn⟩
section
variable {α : Type} {d : Kd α} {e base n : Nat} {ok : Nat → Prop} {w w1 : World} {A : Option Addr} {c : Nat} {v : Value} {xs : List α}
theorem rS (_ : Aside0 (Kd.S d e w base ok (.slice A n c) xs)) (hd : Kd.S d e w1 base ok (.slice A n c) xs := by (with_reducible repeat (first | apply Kd.S_alloc | apply Kd.S_drewN | apply Kd.S_drew)); exact Aside0.out (by first | (with_reducible assumption) | assumption)) : Kd.C d w1 A xs.length xs := (Kd.S_reads' hd).2.2
theorem rl (h : Aside0 (Kd.S d e w base ok (.slice A n c) xs)) : xs.length ≤ c := by have := (Kd.S_reads' h.out).1; have := (Kd.S_reads' h.out).2.1; omega
theorem sb (h : Aside0 (Kd.S d e w base ok v xs)) (hb : Below w.heap.size w w1) : Aside0 (Kd.S d e w1 base ok v xs) := ⟨Kd.S_below h.out hb⟩
theorem rb (h : Aside0 (Kd.R d e w base ok v xs)) (hb : Below w.heap.size w w1) : Aside0 (Kd.R d e w1 base ok v xs) := ⟨Kd.R_below h.out hb⟩
end

theorem rk {α : Type} {d : Kd α} {e : Nat} {w w' : World} {base : Nat} {ok S : Nat → Prop} {v : Value} {xs : List α} (h : Aside0 (Kd.R d e w base ok v xs)) (hk : Kept w w' S) (hn : ∀ k, ok k → ¬ S k) : Aside0 (Kd.R d e w' base ok v xs) := ⟨Kd.R_kept h.out hk hn⟩
theorem zz2 {w : World} {g : Nat} {t : TypeId} {v0 v1 : Value} (h : Aside0 (w.heap[g]? = some (.cells #[v0, v1] t (0, 0)))) : ∀ o, ((w.alloc o).cell? ⟨g, 0, none⟩ = some v0 ∧ (w.alloc o).cell? ⟨g, 1, none⟩ = some v1) := fun o => (z2 (ball h o)).1
theorem siv' {α : Type} {d : Kd α} {e : Nat} {w' : World} {base : Nat} {v : Value} {xs : List α} (h : Kd.S d e w' base (fun _ => True) v xs) (lo B : Nat) (hl : lo ≤ base) (hB : B ≤ base) : Aside0 (Kd.S d e w' B (fun k => lo ≤ k ∧ k < w'.heap.size) v xs) := ⟨Kd.S_lower (Kd.S_mono (Kd.S_bound h) (fun _ hk => ⟨Nat.le_trans hl hk.2.1, hk.2.2.1⟩)) hB⟩
theorem riv' {α : Type} {d : Kd α} {e : Nat} {w' : World} {base : Nat} {v : Value} {xs : List α} (h : Kd.R d e w' base (fun _ => True) v xs) (lo B : Nat) (hl : lo ≤ base) (hB : B ≤ base) : Aside0 (Kd.R d e w' B (fun k => lo ≤ k ∧ k < w'.heap.size) v xs) := ⟨Kd.R_lower (Kd.R_mono (Kd.R_bound h) (fun _ hk => ⟨Nat.le_trans hl hk.2.1, hk.2.2.1⟩)) hB⟩
theorem bdrew {w : World} {g : Nat} {o : Obj} (h : Aside0 (w.heap[g]? = some o)) : Aside0 (w.drew.heap[g]? = some o) := ⟨blk_drew h.out⟩
theorem sdrew {α : Type} {d : Kd α} {e base : Nat} {ok : Nat → Prop} {w : World} {v : Value} {xs : List α} (h : Aside0 (Kd.S d e w base ok v xs)) : Aside0 (Kd.S d e w.drew base ok v xs) := ⟨Kd.S_drew h.out⟩
theorem rdrew {α : Type} {d : Kd α} {e base : Nat} {ok : Nat → Prop} {w : World} {v : Value} {xs : List α} (h : Aside0 (Kd.R d e w base ok v xs)) : Aside0 (Kd.R d e w.drew base ok v xs) := ⟨Kd.R_drew h.out⟩
theorem rlR {α : Type} {d : Kd α} {e base n : Nat} {ok : Nat → Prop} {w : World} {A : Option Addr} {c : Nat} {xs : List α} (h : Aside0 (Kd.R d e w base ok (.slice A n c) xs)) : xs.length ≤ c := by have := (Kd.R_reads' h.out).1; have := (Kd.R_reads' h.out).2.1; omega
section
variable {α : Type} {d : Kd α} {e base n : Nat} {ok S : Nat → Prop} {w w1 : World} {A : Option Addr} {c : Nat} {v : Value} {xs : List α}
end
theorem gtr_ : ∀ (x y : List UInt8), (!Op.bytesLess x y && !(x == y)) = Op.bytesLess y x
  | [], [] => rfl
  | _ :: _, [] => by simp [Op.bytesLess]
  | [], _ :: _ => by simp [Op.bytesLess]
  | a :: x, b :: y => by
    have ih := gtr_ x y
    by_cases h2 : a = b
    · subst h2
      simp only [Op.bytesLess, UInt8.lt_irrefl, decide_false, Bool.false_or, beq_self_eq_true, Bool.true_and, List.cons_beq_cons]
      exact ih
    · have h3 : (a == b) = false := by simpa using h2
      have h4 : (b == a) = false := by simpa using fun h => h2 h.symm
      by_cases h1 : a < b
      · have h5 : ¬ b < a := UInt8.lt_asymm h1
        simp [Op.bytesLess, h1, h3, h4, h5]
      · have h5 : b < a := UInt8.lt_of_le_of_ne (UInt8.not_lt.1 h1) (fun h => h2 h.symm)
        simp [Op.bytesLess, h1, h3, h4, h5]



def errW : Option Int → Value
  | none => .nilIface
  | some c => .iface 0 (.int .i64 c)
theorem errW_none : errW none = .nilIface := rfl
theorem errW_some (c : Int) : errW (some c) = .iface 0 (.int .i64 c) := rfl

theorem info3 : (Tryz.prog.info? 3).map (fun i => (i.zero, i.size, i.bytes)) = some (some (.int .i64 0), 1, 8) := by kernel_rfl
theorem info5 : (Tryz.prog.info? 5).map (fun i => (i.zero, i.size, i.bytes)) = some (some (.int .u8 0), 1, 1) := by kernel_rfl
theorem info9 : (Tryz.prog.info? 9).map (fun i => (i.zero, i.size, i.bytes)) = some (some (.string ⟨#[]⟩), 1, 16) := by kernel_rfl
theorem info47 : (Tryz.prog.info? 47).map (fun i => (i.zero, i.size, i.bytes)) = some (some (.agg #[(.int .i64 0), (.int .i64 0), (.int .i64 0), (.slice none 0 0), (.slice none 0 0), (.slice none 0 0)]), 6, 96) := by kernel_rfl
theorem info63 : (Tryz.prog.info? 63).map (fun i => (i.zero, i.size, i.bytes)) = some (some (.agg #[(.string ⟨#[]⟩), (.int .i64 0)]), 2, 24) := by kernel_rfl
theorem info87 : (Tryz.prog.info? 87).map (fun i => (i.zero, i.size, i.bytes)) = some (some (.agg #[(.string ⟨#[]⟩), (.string ⟨#[]⟩)]), 2, 32) := by kernel_rfl
-- the values' own types
/-! #### struct type 105 -/
structure S105 where
  f0 : ByteArray
  f1 : Int
def z105 : S105 := ⟨(⟨#[]⟩ : ByteArray), (0 : Int)⟩
def k105 : Kd S105 := Kd.iso (Kd.pair Kd.string (Kd.int .i64)) (fun x : S105 => (x.f0, x.f1))
theorem k105_open {w : World} {x : S105} {cs : List Value} (h : k105.K w x cs) : cs = [.string x.f0, .int .i64 x.f1] := by
  obtain ⟨_, _, rfl, rfl, rfl⟩ := h
  exact rfl
def rd_T105 (xs : List S105) (i : Int) : S105 := xs.getD i.toNat z105
theorem at_T105 {w : World} {A : Option Addr} {n : Nat} {xs : List S105} (h : Kd.C k105 w A n xs) (i : Int) (h0 : 0 ≤ i) (h1 : i < n) : ∃ ad , A = some ad ∧ w.cell? (ad.add (i.toNat * 2)) = some (.string (rd_T105 xs i).f0) ∧ w.cell? ⟨(ad.add (i.toNat * 2)).block, (ad.add (i.toNat * 2)).off + 1, none⟩ = some (.int .i64 (rd_T105 xs i).f1) := by
  obtain ⟨ad, c, e, _, hK, hc0⟩ := Kd.C_get h z105 i h0 h1
  have hc : ∀ j u, c[j]? = some u → w.cell? (ad.add (i.toNat * 2 + j)) = some u := hc0
  obtain rfl := k105_open hK
  exact ⟨ad, e, hc 0 _ rfl, by rw [← add_field _ _ 1 (by omega)]; exact hc 1 _ rfl⟩

/-! #### struct type 107 -/
structure S107 where
  f0 : ByteArray
  f1 : ByteArray
def z107 : S107 := ⟨(⟨#[]⟩ : ByteArray), (⟨#[]⟩ : ByteArray)⟩
def k107 : Kd S107 := Kd.iso (Kd.pair Kd.string Kd.string) (fun x : S107 => (x.f0, x.f1))
theorem k107_open {w : World} {x : S107} {cs : List Value} (h : k107.K w x cs) : cs = [.string x.f0, .string x.f1] := by
  obtain ⟨_, _, rfl, rfl, rfl⟩ := h
  exact rfl
def rd_T107 (xs : List S107) (i : Int) : S107 := xs.getD i.toNat z107
theorem at_T107 {w : World} {A : Option Addr} {n : Nat} {xs : List S107} (h : Kd.C k107 w A n xs) (i : Int) (h0 : 0 ≤ i) (h1 : i < n) : ∃ ad , A = some ad ∧ w.cell? (ad.add (i.toNat * 2)) = some (.string (rd_T107 xs i).f0) ∧ w.cell? ⟨(ad.add (i.toNat * 2)).block, (ad.add (i.toNat * 2)).off + 1, none⟩ = some (.string (rd_T107 xs i).f1) := by
  obtain ⟨ad, c, e, _, hK, hc0⟩ := Kd.C_get h z107 i h0 h1
  have hc : ∀ j u, c[j]? = some u → w.cell? (ad.add (i.toNat * 2 + j)) = some u := hc0
  obtain rfl := k107_open hK
  exact ⟨ad, e, hc 0 _ rfl, by rw [← add_field _ _ 1 (by omega)]; exact hc 1 _ rfl⟩

/-! #### struct type 59 -/
structure S59 where
  f0 : Int
  f1 : Int
  f2 : Int
  f3 : (List Int)
  f4 : (List S105)
  f5 : (List S107)
def z59 : S59 := ⟨(0 : Int), (0 : Int), (0 : Int), ([] : List Int), ([] : List S105), ([] : List S107)⟩
def k59 : Kd S59 := Kd.iso (Kd.pair (Kd.int .i64) (Kd.pair (Kd.int .i64) (Kd.pair (Kd.int .i64) (Kd.pair (Kd.slice 5 (Kd.int .u8)) (Kd.pair (Kd.slice 105 k105) (Kd.slice 107 k107)))))) (fun x : S59 => (x.f0, x.f1, x.f2, x.f3, x.f4, x.f5))
theorem k59_open {w : World} {x : S59} {cs : List Value} (h : k59.K w x cs) : ∃ A3 c3 A4 c4 A5 c5, cs = [.int .i64 x.f0, .int .i64 x.f1, .int .i64 x.f2, .slice A3 x.f3.length c3, .slice A4 x.f4.length c4, .slice A5 x.f5.length c5] ∧ x.f3.length ≤ c3 ∧ (Kd.int .u8).C w A3 x.f3.length x.f3 ∧ x.f4.length ≤ c4 ∧ k105.C w A4 x.f4.length x.f4 ∧ x.f5.length ≤ c5 ∧ k107.C w A5 x.f5.length x.f5 := by
  obtain ⟨_, _, rfl, rfl, ⟨_, _, rfl, rfl, ⟨_, _, rfl, rfl, ⟨_, _, rfl, ⟨A3, c3, rfl, l3, g3⟩, ⟨_, _, rfl, ⟨A4, c4, rfl, l4, g4⟩, ⟨A5, c5, rfl, l5, g5⟩⟩⟩⟩⟩⟩ := h
  exact ⟨A3, c3, A4, c4, A5, c5, rfl, l3, g3, l4, g4, l5, g5⟩
def rd_T59 (xs : List S59) (i : Int) : S59 := xs.getD i.toNat z59
theorem at_T59 {w : World} {A : Option Addr} {n : Nat} {xs : List S59} (h : Kd.C k59 w A n xs) (i : Int) (h0 : 0 ≤ i) (h1 : i < n) : ∃ ad A3 c3 A4 c4 A5 c5, A = some ad ∧ w.cell? (ad.add (i.toNat * 6)) = some (.int .i64 (rd_T59 xs i).f0) ∧ w.cell? ⟨(ad.add (i.toNat * 6)).block, (ad.add (i.toNat * 6)).off + 1, none⟩ = some (.int .i64 (rd_T59 xs i).f1) ∧ w.cell? ⟨(ad.add (i.toNat * 6)).block, (ad.add (i.toNat * 6)).off + 2, none⟩ = some (.int .i64 (rd_T59 xs i).f2) ∧ w.cell? ⟨(ad.add (i.toNat * 6)).block, (ad.add (i.toNat * 6)).off + 3, none⟩ = some (.slice A3 (rd_T59 xs i).f3.length c3) ∧ w.cell? ⟨(ad.add (i.toNat * 6)).block, (ad.add (i.toNat * 6)).off + 4, none⟩ = some (.slice A4 (rd_T59 xs i).f4.length c4) ∧ w.cell? ⟨(ad.add (i.toNat * 6)).block, (ad.add (i.toNat * 6)).off + 5, none⟩ = some (.slice A5 (rd_T59 xs i).f5.length c5) ∧ (rd_T59 xs i).f3.length ≤ c3 ∧ (Kd.int .u8).C w A3 (rd_T59 xs i).f3.length (rd_T59 xs i).f3 ∧ (rd_T59 xs i).f4.length ≤ c4 ∧ k105.C w A4 (rd_T59 xs i).f4.length (rd_T59 xs i).f4 ∧ (rd_T59 xs i).f5.length ≤ c5 ∧ k107.C w A5 (rd_T59 xs i).f5.length (rd_T59 xs i).f5 := by
  obtain ⟨ad, c, e, _, hK, hc0⟩ := Kd.C_get h z59 i h0 h1
  have hc : ∀ j u, c[j]? = some u → w.cell? (ad.add (i.toNat * 6 + j)) = some u := hc0
  obtain ⟨A3, c3, A4, c4, A5, c5, rfl, l3, g3, l4, g4, l5, g5⟩ := k59_open hK
  exact ⟨ad, A3, c3, A4, c4, A5, c5, e, hc 0 _ rfl, by rw [← add_field _ _ 1 (by omega)]; exact hc 1 _ rfl, by rw [← add_field _ _ 2 (by omega)]; exact hc 2 _ rfl, by rw [← add_field _ _ 3 (by omega)]; exact hc 3 _ rfl, by rw [← add_field _ _ 4 (by omega)]; exact hc 4 _ rfl, by rw [← add_field _ _ 5 (by omega)]; exact hc 5 _ rfl, l3, g3, l4, g4, l5, g5⟩

/-! #### struct type 63 -/
structure S63 where
  f0 : ByteArray
  f1 : Int
def z63 : S63 := ⟨(⟨#[]⟩ : ByteArray), (0 : Int)⟩
def k63 : Kd S63 := Kd.iso (Kd.pair Kd.string (Kd.int .i64)) (fun x : S63 => (x.f0, x.f1))
theorem k63_open {w : World} {x : S63} {cs : List Value} (h : k63.K w x cs) : cs = [.string x.f0, .int .i64 x.f1] := by
  obtain ⟨_, _, rfl, rfl, rfl⟩ := h
  exact rfl
theorem k63_openM {w : World} {base : Nat} {ok : Nat → Prop} {x : S63} {cs : List Value} (h : k63.M w base ok x cs) : cs = [.string x.f0, .int .i64 x.f1] := by
  obtain ⟨_, _, rfl, rfl, rfl⟩ := h
  exact rfl
theorem k63_mkM (w : World) (base : Nat) (ok : Nat → Prop) (x : S63)  : k63.M w base ok x [.string x.f0, .int .i64 x.f1] := ⟨[.string x.f0], [.int .i64 x.f1], rfl, rfl, rfl⟩
def rd_T63 (xs : List S63) (i : Int) : S63 := xs.getD i.toNat z63
theorem at_T63 {w : World} {A : Option Addr} {n : Nat} {xs : List S63} (h : Kd.C k63 w A n xs) (i : Int) (h0 : 0 ≤ i) (h1 : i < n) : ∃ ad , A = some ad ∧ w.cell? (ad.add (i.toNat * 2)) = some (.string (rd_T63 xs i).f0) ∧ w.cell? ⟨(ad.add (i.toNat * 2)).block, (ad.add (i.toNat * 2)).off + 1, none⟩ = some (.int .i64 (rd_T63 xs i).f1) := by
  obtain ⟨ad, c, e, _, hK, hc0⟩ := Kd.C_get h z63 i h0 h1
  have hc : ∀ j u, c[j]? = some u → w.cell? (ad.add (i.toNat * 2 + j)) = some u := hc0
  obtain rfl := k63_open hK
  exact ⟨ad, e, hc 0 _ rfl, by rw [← add_field _ _ 1 (by omega)]; exact hc 1 _ rfl⟩

/-! #### struct type 87 -/
structure S87 where
  f0 : ByteArray
  f1 : ByteArray
def z87 : S87 := ⟨(⟨#[]⟩ : ByteArray), (⟨#[]⟩ : ByteArray)⟩
def k87 : Kd S87 := Kd.iso (Kd.pair Kd.string Kd.string) (fun x : S87 => (x.f0, x.f1))
theorem k87_open {w : World} {x : S87} {cs : List Value} (h : k87.K w x cs) : cs = [.string x.f0, .string x.f1] := by
  obtain ⟨_, _, rfl, rfl, rfl⟩ := h
  exact rfl
theorem k87_openM {w : World} {base : Nat} {ok : Nat → Prop} {x : S87} {cs : List Value} (h : k87.M w base ok x cs) : cs = [.string x.f0, .string x.f1] := by
  obtain ⟨_, _, rfl, rfl, rfl⟩ := h
  exact rfl
theorem k87_mkM (w : World) (base : Nat) (ok : Nat → Prop) (x : S87)  : k87.M w base ok x [.string x.f0, .string x.f1] := ⟨[.string x.f0], [.string x.f1], rfl, rfl, rfl⟩
def rd_T87 (xs : List S87) (i : Int) : S87 := xs.getD i.toNat z87
theorem at_T87 {w : World} {A : Option Addr} {n : Nat} {xs : List S87} (h : Kd.C k87 w A n xs) (i : Int) (h0 : 0 ≤ i) (h1 : i < n) : ∃ ad , A = some ad ∧ w.cell? (ad.add (i.toNat * 2)) = some (.string (rd_T87 xs i).f0) ∧ w.cell? ⟨(ad.add (i.toNat * 2)).block, (ad.add (i.toNat * 2)).off + 1, none⟩ = some (.string (rd_T87 xs i).f1) := by
  obtain ⟨ad, c, e, _, hK, hc0⟩ := Kd.C_get h z87 i h0 h1
  have hc : ∀ j u, c[j]? = some u → w.cell? (ad.add (i.toNat * 2 + j)) = some u := hc0
  obtain rfl := k87_open hK
  exact ⟨ad, e, hc 0 _ rfl, by rw [← add_field _ _ 1 (by omega)]; exact hc 1 _ rfl⟩

/-! #### struct type 47 -/
structure S47 where
  f0 : Int
  f1 : Int
  f2 : Int
  f3 : (List Int)
  f4 : (List S63)
  f5 : (List S87)
def z47 : S47 := ⟨(0 : Int), (0 : Int), (0 : Int), ([] : List Int), ([] : List S63), ([] : List S87)⟩
def k47 : Kd S47 := Kd.iso (Kd.pair (Kd.int .i64) (Kd.pair (Kd.int .i64) (Kd.pair (Kd.int .i64) (Kd.pair (Kd.slice 5 (Kd.int .u8)) (Kd.pair (Kd.slice 63 k63) (Kd.slice 87 k87)))))) (fun x : S47 => (x.f0, x.f1, x.f2, x.f3, x.f4, x.f5))
theorem k47_open {w : World} {x : S47} {cs : List Value} (h : k47.K w x cs) : ∃ A3 c3 A4 c4 A5 c5, cs = [.int .i64 x.f0, .int .i64 x.f1, .int .i64 x.f2, .slice A3 x.f3.length c3, .slice A4 x.f4.length c4, .slice A5 x.f5.length c5] ∧ x.f3.length ≤ c3 ∧ (Kd.int .u8).C w A3 x.f3.length x.f3 ∧ x.f4.length ≤ c4 ∧ k63.C w A4 x.f4.length x.f4 ∧ x.f5.length ≤ c5 ∧ k87.C w A5 x.f5.length x.f5 := by
  obtain ⟨_, _, rfl, rfl, ⟨_, _, rfl, rfl, ⟨_, _, rfl, rfl, ⟨_, _, rfl, ⟨A3, c3, rfl, l3, g3⟩, ⟨_, _, rfl, ⟨A4, c4, rfl, l4, g4⟩, ⟨A5, c5, rfl, l5, g5⟩⟩⟩⟩⟩⟩ := h
  exact ⟨A3, c3, A4, c4, A5, c5, rfl, l3, g3, l4, g4, l5, g5⟩
theorem k47_openM {w : World} {base : Nat} {ok : Nat → Prop} {x : S47} {cs : List Value} (h : k47.M w base ok x cs) : ∃ v3 v4 v5, cs = [.int .i64 x.f0, .int .i64 x.f1, .int .i64 x.f2, v3, v4, v5] ∧ (Kd.int .u8).R 5 w base ok v3 x.f3 ∧ k63.R 63 w base ok v4 x.f4 ∧ k87.R 87 w base ok v5 x.f5 := by
  obtain ⟨_, _, rfl, rfl, ⟨_, _, rfl, rfl, ⟨_, _, rfl, rfl, ⟨_, _, rfl, ⟨v3, rfl, g3⟩, ⟨_, _, rfl, ⟨v4, rfl, g4⟩, ⟨v5, rfl, g5⟩⟩⟩⟩⟩⟩ := h
  exact ⟨v3, v4, v5, rfl, g3, g4, g5⟩
theorem k47_mkM (w : World) (base : Nat) (ok : Nat → Prop) (x : S47) {v3 : Value} (g3 : (Kd.int .u8).R 5 w base ok v3 x.f3) {v4 : Value} (g4 : k63.R 63 w base ok v4 x.f4) {v5 : Value} (g5 : k87.R 87 w base ok v5 x.f5) : k47.M w base ok x [.int .i64 x.f0, .int .i64 x.f1, .int .i64 x.f2, v3, v4, v5] := ⟨[.int .i64 x.f0], [.int .i64 x.f1, .int .i64 x.f2, v3, v4, v5], rfl, rfl, ⟨[.int .i64 x.f1], [.int .i64 x.f2, v3, v4, v5], rfl, rfl, ⟨[.int .i64 x.f2], [v3, v4, v5], rfl, rfl, ⟨[v3], [v4, v5], rfl, ⟨v3, rfl, g3⟩, ⟨[v4], [v5], rfl, ⟨v4, rfl, g4⟩, ⟨v5, rfl, g5⟩⟩⟩⟩⟩⟩
def rd_T47 (xs : List S47) (i : Int) : S47 := xs.getD i.toNat z47
theorem at_T47 {w : World} {A : Option Addr} {n : Nat} {xs : List S47} (h : Kd.C k47 w A n xs) (i : Int) (h0 : 0 ≤ i) (h1 : i < n) : ∃ ad A3 c3 A4 c4 A5 c5, A = some ad ∧ w.cell? (ad.add (i.toNat * 6)) = some (.int .i64 (rd_T47 xs i).f0) ∧ w.cell? ⟨(ad.add (i.toNat * 6)).block, (ad.add (i.toNat * 6)).off + 1, none⟩ = some (.int .i64 (rd_T47 xs i).f1) ∧ w.cell? ⟨(ad.add (i.toNat * 6)).block, (ad.add (i.toNat * 6)).off + 2, none⟩ = some (.int .i64 (rd_T47 xs i).f2) ∧ w.cell? ⟨(ad.add (i.toNat * 6)).block, (ad.add (i.toNat * 6)).off + 3, none⟩ = some (.slice A3 (rd_T47 xs i).f3.length c3) ∧ w.cell? ⟨(ad.add (i.toNat * 6)).block, (ad.add (i.toNat * 6)).off + 4, none⟩ = some (.slice A4 (rd_T47 xs i).f4.length c4) ∧ w.cell? ⟨(ad.add (i.toNat * 6)).block, (ad.add (i.toNat * 6)).off + 5, none⟩ = some (.slice A5 (rd_T47 xs i).f5.length c5) ∧ (rd_T47 xs i).f3.length ≤ c3 ∧ (Kd.int .u8).C w A3 (rd_T47 xs i).f3.length (rd_T47 xs i).f3 ∧ (rd_T47 xs i).f4.length ≤ c4 ∧ k63.C w A4 (rd_T47 xs i).f4.length (rd_T47 xs i).f4 ∧ (rd_T47 xs i).f5.length ≤ c5 ∧ k87.C w A5 (rd_T47 xs i).f5.length (rd_T47 xs i).f5 := by
  obtain ⟨ad, c, e, _, hK, hc0⟩ := Kd.C_get h z47 i h0 h1
  have hc : ∀ j u, c[j]? = some u → w.cell? (ad.add (i.toNat * 6 + j)) = some u := hc0
  obtain ⟨A3, c3, A4, c4, A5, c5, rfl, l3, g3, l4, g4, l5, g5⟩ := k47_open hK
  exact ⟨ad, A3, c3, A4, c4, A5, c5, e, hc 0 _ rfl, by rw [← add_field _ _ 1 (by omega)]; exact hc 1 _ rfl, by rw [← add_field _ _ 2 (by omega)]; exact hc 2 _ rfl, by rw [← add_field _ _ 3 (by omega)]; exact hc 3 _ rfl, by rw [← add_field _ _ 4 (by omega)]; exact hc 4 _ rfl, by rw [← add_field _ _ 5 (by omega)]; exact hc 5 _ rfl, l3, g3, l4, g4, l5, g5⟩

/-! #### struct type 24 -/
structure S24 where
  f0 : (List S59)
  f1 : Int
def k24 : Kd S24 := Kd.iso (Kd.pair (Kd.slice 59 k59) (Kd.int .i64)) (fun x : S24 => (x.f0, x.f1))
theorem k24_open {w : World} {x : S24} {cs : List Value} (h : k24.K w x cs) : ∃ A0 c0, cs = [.slice A0 x.f0.length c0, .int .i64 x.f1] ∧ x.f0.length ≤ c0 ∧ k59.C w A0 x.f0.length x.f0 := by
  obtain ⟨_, _, rfl, ⟨A0, c0, rfl, l0, g0⟩, rfl⟩ := h
  exact ⟨A0, c0, rfl, l0, g0⟩
end Go.Proofs.YtolkhimbfegkkaaGreat.P
