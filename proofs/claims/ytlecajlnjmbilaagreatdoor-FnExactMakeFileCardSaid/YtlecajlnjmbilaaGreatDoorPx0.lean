-- Printed walks.
import Derived.Laws.Cover1
import Derived.WalkSpells
import Derived.Test.YtlecajlnjmbilaaGreatDoorSh
import Derived.Sort.OwnSortedInts
import Derived.Lib.Overlaps
import Derived.Lib.AppendZerosOnto
import Derived.Laws.NewBlocks
import Derived.Shelf.RegionOpenPlain
import Derived.Shelf.Strings.OnBuilder
import Derived.Test.YtlecajlnjmbilaaGreatDoorSh
import Derived.Test.YtlecajlnjmbilaaGreatDoorWFour
import Derived.Test.YtlecajlnjmbilaaGreatDoorWAt
import Derived.Test.YtlecajlnjmbilaaGreatDoorWEqStruct
import Derived.Test.YtlecajlnjmbilaaGreatDoorWRepsOne
import Derived.Test.YtlecajlnjmbilaaGreatDoorWInvWords
import Derived.Test.YtlecajlnjmbilaaGreatDoorWGuard
import Derived.Test.YtlecajlnjmbilaaGreatDoorWMore
set_option linter.all false
namespace Go.Proofs.YtlecajlnjmbilaaGreatDoor.P
open Go.RowKit Go.Proofs.ab.aq Go.Proofs.ab.aH Go.Proofs.ab.aK
attribute [local go_sem] gy gz i_ ja fR fS g_ hD

theorem oa {p:Prop} [Decidable p] (h:decide p=true:=by first|(with_reducible assumption)|assumption):p:=of_decide_eq_true h
theorem oD {p:Prop}(h:p:=by repeat(first|exact fy.refl _|apply fy.step)):p:=h
theorem oE {p:Prop}(h:p:=by first|rfl|(simp[ed,ee]<;>rfl)|(simp[*,ed,ee]<;>rfl)):p:=h
theorem oL {p:Prop}(h:p:=by(try simp only[List.map_toArray,List.map_cons,List.map_nil]);first|done|rfl|(simp only[List.length_drop,List.length_take];rfl)):p:=h
theorem oS {p:Prop}(h:p:=by first|rfl|(simp;done)|(simp[*];done)):p:=h
theorem bA {α β:Type}{x:Option α}{f:α→Option β}{r:β}(h:x.bind f=some r):∃a,ae (x=some a)∧f a=some r:=by
  obtain⟨a,h1,h2⟩:=Option.bind_eq_some_iff.mp h;exact⟨a,⟨h1⟩,h2⟩
theorem lp {α:Type}{b:Bool}{x y:Option α}{r:α}(h:(if b=true then x else y)=some r):(b=true∧x=some r)∨(b=false∧y=some r):=by
  cases b
  · exact .inr ⟨rfl,by simpa using h⟩
  · exact .inl ⟨rfl,by simpa using h⟩
theorem jh {α:Type}{p:Prop} [d:Decidable p] {x y:Option α}{r:α}(h:(if p then x else y)=some r):(decide p=true∧x=some r)∨(decide p=false∧y=some r):=by
  by_cases c:p
  · exact .inl ⟨decide_eq_true c,by rwa [if_pos c]at h⟩
  · exact .inr ⟨decide_eq_false c,by rwa [if_neg c]at h⟩
theorem zw {α:Type}{a b:Int}{x y:Option α}{r:α}(h:(if a>b then x else y)=some r):(decide (b<a)=true∧x=some r)∨(decide (b<a)=false∧y=some r):=jh h
theorem itH {α:Type}{a b:Int}{x y:Option α}{r:α}(h:(if a≥b then x else y)=some r):(decide (b≤a)=true∧x=some r)∨(decide (b≤a)=false∧y=some r):=jh h
theorem bs_ {w W:World}{g j:Nat}{v:Value}(h:Below w.heap.size w W) (hg:ae (w.heap.size≤g)):Below w.heap.size w (W.setCell ⟨g,j,none⟩ v):=aG h hg.out
theorem oB {p:Prop}(h:p:=by repeat(first|(with_reducible first|exact HB.out|apply aQ|apply aT|apply ar|refine bs_ ?_ (by with_reducible assumption))|exact HB.out)):p:=h
theorem oQ {p:Prop}(h:p:=by first|exact⟨rfl,_,World.drewN_drewN _ _ _⟩|exact⟨rfl,_,Eq.trans (World.drewN_drewN _ _ _) (congrArg (World.drewN _) (Nat.add_assoc _ _ _))⟩):p:=h
theorem cB {w W:World}{a:Addr}{v:Value}(hB:ae (Below w.heap.size w W)) (h:w.cell? a=some v):W.cell? a=some v:=(hB.out.cell (World.block_lt_of_cell? w _ h)).trans h
theorem oT {p:Prop} [Decidable p] (h:decide p=true:=by first|(with_reducible assumption)|assumption):p=True:=eq_true (of_decide_eq_true h)
theorem bc_ {w:World}{g i:Nat}{t:TypeId}{cs:Array Value}{v:Value}(h:ae (w.heap[g]? =some (.cells cs t (0,0)))) (e:cs[i]? =some v):w.cell? ⟨g,i,none⟩=some v:=(an h.out i).trans e
theorem oH {p:Prop}(h:p:=by(repeat' (with_reducible refine And.intro ?_ ?_))<;>(first|exact cB HB (by with_reducible assumption)|(refine bc_ (by with_reducible assumption) ?_;rfl)|(refine bc_ (ae.mk (ct (ae.out (by with_reducible assumption)) _)) ?_;rfl))):p:=h
theorem ks_ {w W:World}{S:Nat→Prop}{g j:Nat}{v:Value}(h:Kept w W S) (hg:ae (w.heap.size≤g)):Kept w (W.setCell ⟨g,j,none⟩ v) S:=Kept.setCell h (.inr hg.out) v
theorem oK {w W:World}{S:Nat→Prop}(h:Kept w W S:=by repeat(first|(with_reducible first|exact HK.out|apply Kept.alloc|apply Kept.drewN|apply Kept.drew|refine ks_ ?_ (by with_reducible assumption))|exact HK.out)):Kept w W S:=h
theorem oF {g:Nat}{o:Obj}{w w1:World}(_:ae (w.heap[g]? =some o)) (hd:w1.heap[g]? =some o:=by(repeat(first|(with_reducible first|refine ct ?_ _|refine ao ?_|refine aC ?_ _)|refine ep ?_ (ae.out (by with_reducible assumption)) _));exact ae.out (by first|(with_reducible assumption)|assumption)):w1.heap[g]? =some o:=hd
theorem z1 {w:World}{g:Nat}{t:TypeId}{v0:Value}(h:ae (w.heap[g]? =some (.cells #[v0] t (0,0)))):w.cell? ⟨g,0,none⟩=some v0∧w.frozen? ⟨g,0,none⟩=false:=⟨(an h.out 0).trans rfl,ay h.out 0⟩
theorem z2 {w:World}{g:Nat}{t:TypeId}{v0 v1:Value}(h:ae (w.heap[g]? =some (.cells #[v0,v1] t (0,0)))):(w.cell? ⟨g,0,none⟩=some v0∧w.cell? ⟨g,1,none⟩=some v1)∧w.frozen? ⟨g,0,none⟩=false∧w.frozen? ⟨g,1,none⟩=false:=⟨⟨(an h.out 0).trans rfl,(an h.out 1).trans rfl⟩,ay h.out 0,ay h.out 1⟩
theorem z3 {w:World}{g:Nat}{t:TypeId}{v0 v1 v2:Value}(h:ae (w.heap[g]? =some (.cells #[v0,v1,v2] t (0,0)))):(w.cell? ⟨g,0,none⟩=some v0∧w.cell? ⟨g,1,none⟩=some v1∧w.cell? ⟨g,2,none⟩=some v2)∧w.frozen? ⟨g,0,none⟩=false∧w.frozen? ⟨g,1,none⟩=false∧w.frozen? ⟨g,2,none⟩=false:=⟨⟨(an h.out 0).trans rfl,(an h.out 1).trans rfl,(an h.out 2).trans rfl⟩,ay h.out 0,ay h.out 1,ay h.out 2⟩
theorem z4 {w:World}{g:Nat}{t:TypeId}{v0 v1 v2 v3:Value}(h:ae (w.heap[g]? =some (.cells #[v0,v1,v2,v3] t (0,0)))):(w.cell? ⟨g,0,none⟩=some v0∧w.cell? ⟨g,1,none⟩=some v1∧w.cell? ⟨g,2,none⟩=some v2∧w.cell? ⟨g,3,none⟩=some v3)∧w.frozen? ⟨g,0,none⟩=false∧w.frozen? ⟨g,1,none⟩=false∧w.frozen? ⟨g,2,none⟩=false∧w.frozen? ⟨g,3,none⟩=false:=⟨⟨(an h.out 0).trans rfl,(an h.out 1).trans rfl,(an h.out 2).trans rfl,(an h.out 3).trans rfl⟩,ay h.out 0,ay h.out 1,ay h.out 2,ay h.out 3⟩
theorem z5 {w:World}{g:Nat}{t:TypeId}{v0 v1 v2 v3 v4:Value}(h:ae (w.heap[g]? =some (.cells #[v0,v1,v2,v3,v4] t (0,0)))):(w.cell? ⟨g,0,none⟩=some v0∧w.cell? ⟨g,1,none⟩=some v1∧w.cell? ⟨g,2,none⟩=some v2∧w.cell? ⟨g,3,none⟩=some v3∧w.cell? ⟨g,4,none⟩=some v4)∧w.frozen? ⟨g,0,none⟩=false∧w.frozen? ⟨g,1,none⟩=false∧w.frozen? ⟨g,2,none⟩=false∧w.frozen? ⟨g,3,none⟩=false∧w.frozen? ⟨g,4,none⟩=false:=⟨⟨(an h.out 0).trans rfl,(an h.out 1).trans rfl,(an h.out 2).trans rfl,(an h.out 3).trans rfl,(an h.out 4).trans rfl⟩,ay h.out 0,ay h.out 1,ay h.out 2,ay h.out 3,ay h.out 4⟩
theorem z6 {w:World}{g:Nat}{t:TypeId}{v0 v1 v2 v3 v4 v5:Value}(h:ae (w.heap[g]? =some (.cells #[v0,v1,v2,v3,v4,v5] t (0,0)))):(w.cell? ⟨g,0,none⟩=some v0∧w.cell? ⟨g,1,none⟩=some v1∧w.cell? ⟨g,2,none⟩=some v2∧w.cell? ⟨g,3,none⟩=some v3∧w.cell? ⟨g,4,none⟩=some v4∧w.cell? ⟨g,5,none⟩=some v5)∧w.frozen? ⟨g,0,none⟩=false∧w.frozen? ⟨g,1,none⟩=false∧w.frozen? ⟨g,2,none⟩=false∧w.frozen? ⟨g,3,none⟩=false∧w.frozen? ⟨g,4,none⟩=false∧w.frozen? ⟨g,5,none⟩=false:=⟨⟨(an h.out 0).trans rfl,(an h.out 1).trans rfl,(an h.out 2).trans rfl,(an h.out 3).trans rfl,(an h.out 4).trans rfl,(an h.out 5).trans rfl⟩,ay h.out 0,ay h.out 1,ay h.out 2,ay h.out 3,ay h.out 4,ay h.out 5⟩
theorem z7 {w:World}{g:Nat}{t:TypeId}{v0 v1 v2 v3 v4 v5 v6:Value}(h:ae (w.heap[g]? =some (.cells #[v0,v1,v2,v3,v4,v5,v6] t (0,0)))):(w.cell? ⟨g,0,none⟩=some v0∧w.cell? ⟨g,1,none⟩=some v1∧w.cell? ⟨g,2,none⟩=some v2∧w.cell? ⟨g,3,none⟩=some v3∧w.cell? ⟨g,4,none⟩=some v4∧w.cell? ⟨g,5,none⟩=some v5∧w.cell? ⟨g,6,none⟩=some v6)∧w.frozen? ⟨g,0,none⟩=false∧w.frozen? ⟨g,1,none⟩=false∧w.frozen? ⟨g,2,none⟩=false∧w.frozen? ⟨g,3,none⟩=false∧w.frozen? ⟨g,4,none⟩=false∧w.frozen? ⟨g,5,none⟩=false∧w.frozen? ⟨g,6,none⟩=false:=⟨⟨(an h.out 0).trans rfl,(an h.out 1).trans rfl,(an h.out 2).trans rfl,(an h.out 3).trans rfl,(an h.out 4).trans rfl,(an h.out 5).trans rfl,(an h.out 6).trans rfl⟩,ay h.out 0,ay h.out 1,ay h.out 2,ay h.out 3,ay h.out 4,ay h.out 5,ay h.out 6⟩
theorem aY {g:Nat}{o:Obj}{w w1 w2:World}(_:ae (w.heap[g]? =some o)) (hb:Below w1.heap.size w1 w2) (hd:w1.heap[g]? =some o:=by(repeat(first|(with_reducible first|refine ct ?_ _|refine ao ?_|refine aC ?_ _)|refine ep ?_ (ae.out (by with_reducible assumption)) _));exact ae.out (by first|(with_reducible assumption)|assumption)):ae (w2.heap[g]? =some o):=⟨fT hd hb⟩
theorem eG {g g':Nat}{o:Obj}{w w1:World}(hg:g'=w1.heap.size) (_:ae (w.heap[g]? =some o)) (hd:w1.heap[g]? =some o:=by(repeat(first|(with_reducible first|refine ct ?_ _|refine ao ?_|refine aC ?_ _)|refine ep ?_ (ae.out (by with_reducible assumption)) _));exact ae.out (by first|(with_reducible assumption)|assumption)):ae (g≠g'):=⟨by rw[hg];exact Nat.ne_of_lt (fL hd)⟩
theorem eH {g g':Nat}{o:Obj}{w w1:World}(hg:g'=w1.heap.size) (_:ae (w.heap[g]? =some o)) (hd:w1.heap[g]? =some o:=by(repeat(first|(with_reducible first|refine ct ?_ _|refine ao ?_|refine aC ?_ _)|refine ep ?_ (ae.out (by with_reducible assumption)) _));exact ae.out (by first|(with_reducible assumption)|assumption)):ae (g'≠g):=⟨by rw[hg];exact Nat.ne_of_gt (fL hd)⟩
theorem cZ {g:Nat}{w W:World}(hg:g=W.heap.size) (h:Below w.heap.size w W:=by repeat(first|(with_reducible first|exact HB.out|apply aQ|apply aT|apply ar|refine bs_ ?_ (by with_reducible assumption))|exact HB.out)):ae (w.heap.size≤g):=⟨by rw[hg];exact ah h⟩
section
variable {P:Program}{ops:Array Oper}{Q:Exit→Act→World→Prop}{rest:List Oper}{oi:Oper}{a:Act}{w:World}
theorem eB (N:Tmp) {f:FuncId}{fn:Func}(hf:P.funcs[f]? =some fn) {args:Array Value}{R:Ending→World→Prop}{aa:Array Operand}{ts:Array TypeId}(h:Calls P f args w R) (hn:∀e w',R e w'→∃v,e= .returned v∧wpList P ops Q rest (a.put (some N) v) w')
    (hop:oi.op= .call {callee:= .value (.func f),args:=aa,argTypes:=ts}:=by exact rfl) (hargs:aa.map a.eval=args:=by(try simp only[List.map_toArray,List.map_cons,List.map_nil]);first|done|rfl|(simp only[List.length_drop,List.length_take];rfl)) (hd:oi.dst=some N:=by exact rfl) (hg:oi.guard=none:=by exact rfl) (hname:(fn.name== "runtime.NumGoroutine")=false:=by kernel_rfl) (hb:fn.body.isSome=true:=by exact rfl):wpList P ops Q (oi::rest) a w:=
  tJ (some N) hd hg hf hname hb args hop hargs (h.mono hn)
theorem cY {W:World}(N:Tmp) (cs:Array Value) (t:TypeId)
    (h:∀g,g=W.heap.size→∀w1,w1.heap[g]? =some (.cells cs t (0,0))→Below W.heap.size W w1→wpList P ops Q rest (a.put oi.dst (.pointer (some ⟨g,0,none⟩))) w1) (hgd:oi.guard=none:=by exact rfl) (hd:oi.dst=some N:=by exact rfl)
    (hrun:(execOp a.eval oi).run P W= .ok (.value (.pointer (some ⟨W.heap.size,0,none⟩))) (W.alloc (.cells cs t (0,0))):=by first|(go_simp;done)|(go_simp;rfl)):wpList P ops Q (oi::rest) a W:=tg hgd hd hrun h
end
section
variable {α:Type}{d:Kd α}{e base n:Nat}{ok okv:Nat→Prop}{w w1 w2:World}{A:Option Addr}{c:Nat}{u v:Value}{xs:List α}
theorem ke_ {β:Type}{d':Kd β}{e':Nat}{ys:List β}(_:ae (d.R e w base ok u xs)) (ho:d'.R e' w2 w1.heap.size okv v ys) (hb:Below w1.heap.size w1 w2) (hd:d.R e w1 base ok u xs:=by(with_reducible repeat(first|apply Kd.b_|apply Kd.cd|apply Kd.ca));exact ae.out (by first|(with_reducible assumption)|assumption)):ae (d.R e w2 base (fun k=>ok k∧some k≠v.ownBlock) u xs):=⟨Kd.rG hd (Kd.dx ho) hb⟩
theorem fY (_:ae (d.R e w base ok u xs)) (hb:Below w1.heap.size w1 w2) (hd:d.R e w1 base ok u xs:=by(with_reducible repeat(first|apply Kd.b_|apply Kd.cd|apply Kd.ca));exact ae.out (by first|(with_reducible assumption)|assumption)):ae (d.R e w2 base ok u xs):=⟨Kd.jo hd hb⟩
theorem pE (_:ae (d.R e w base ok u xs)) (hd:d.R e w1 base ok u xs:=by(with_reducible repeat(first|apply Kd.b_|apply Kd.cd|apply Kd.ca));exact ae.out (by first|(with_reducible assumption)|assumption)):∀k,u.ownBlock=some k→k<w1.heap.size:=Kd.aaf hd
theorem oR (_:ae (d.R e w base ok u xs)) (hd:d.R e w1 base ok u xs:=by(with_reducible repeat(first|apply Kd.b_|apply Kd.cd|apply Kd.ca));exact ae.out (by first|(with_reducible assumption)|assumption)):d.R e w1 base ok u xs:=hd
theorem kC (h:ae (Kd.C d w A n xs)) (hb:Below w.heap.size w w1:=by repeat(first|(with_reducible first|exact HB.out|apply aQ|apply aT|apply ar|refine bs_ ?_ (by with_reducible assumption))|exact HB.out)):Kd.C d w1 A n xs:=Kd.dp h.out hb
theorem kO (_:ae (d.R e w base ok (.slice A n c) xs)) (hd:d.R e w1 base ok (.slice A n c) xs:=by(with_reducible repeat(first|apply Kd.b_|apply Kd.cd|apply Kd.ca));exact ae.out (by first|(with_reducible assumption)|assumption)):Kd.C d w1 A xs.length xs:=(Kd.bd hd).2.2
theorem ko (h:ae (d.R e w base ok (.slice A n c) xs)):n≤c:=(Kd.bd h.out).2.1
end
section
variable {P:Program}{ops:Array Oper}{Q:Exit→Act→World→Prop}{md:Region.Mode}{S:World→Prop}{ds:List Nat}{T:Bool×List (List Nat×List Nat)}{B:List Nat}
def lb (n m:Nat):Array Bool:=((List.range n).map fun i=>m.testBit i).toArray
theorem mz {id:Nat}{a:Act}{w:World}{T:Bool×List (List Nat×List Nat)}{B:List Nat}(n:Nat) (S:World→Prop) (hT:gu .any ops=T) (hB:eP T.2 B=true) (hS:S w.drew)
    (h:S w.drew→ae (gu .any ops=T)→ae (eP T.2 B=true)→br P .any ops Q S [] n (lb n 0) a w.drew) (hm:P.follows .mixedOrders=true:=by kernel_rfl) (hn:ops.size=n:=by exact rfl) (hl:Array.replicate n false=lb n 0:=by exact rfl):(Code.region id ops true).wp P Q a w:=
  pF (lb n 0) hm hn hl hS (fun hh=>h hh ⟨hT⟩ ⟨hB⟩)
theorem bz {n m:Nat}(i:Nat) (N:Tmp) {oi:Oper}{v:Value}{fuel:Nat}{a a':Act}{w:World}(HT:ae (gu md ops=T)) (h:br P md ops Q S ds fuel (lb n (m|||1<<<i)) a' w) (hi:ops[i]? =some oi:=by exact rfl) (hN:oi.dst=some N:=by exact rfl)
    (hc:abQ T (lb n m).toList (lb n (m|||1<<<i)).toList i=true:=by kernel_rfl) (hQ:∀c a w,Q (.panic c) (a.put oi.dst v) w→Q (.panic c) a w:=by exact fun _ _ _ h=>h) (hg:Region.wanted oi (yielded ops a.tmps)=true:=by exact rfl) (hy:∀w,(execOp a.eval oi).run P w= .ok (.value v) w:=by intro w';go_simp;with_reducible rfl)
    (ha:a.put (some N) v=a':=by simp only[Act.put,List.setIfInBounds_toArray,List.set_cons_zero,List.set_cons_succ,fx,ic];rfl):br P md ops Q S ds (fuel+1) (lb n m) a w:=aag _ hi hN (aah HT.out hc) hQ (.inl ⟨hg,hy⟩) ha h
theorem fX {n m:Nat}(i:Nat) (N:Tmp) {oi:Oper}{v:Value}{fuel:Nat}{a a':Act}{w:World}(HT:ae (gu md ops=T)) (HW:ae (eP T.2 B=true)) (hS:S w) (h:br P md ops Q S ds fuel (lb n (m|||1<<<i)) a' w) (hi:ops[i]? =some oi:=by exact rfl) (hN:oi.dst=some N:=by exact rfl)
    (hc:aai T B ds (lb n m).toList (lb n (m|||1<<<i)).toList i=true:=by kernel_rfl) (hQ:∀c a w,Q (.panic c) (a.put oi.dst v) w→Q (.panic c) a w:=by exact fun _ _ _ h=>h) (hg:Region.wanted oi (yielded ops a.tmps)=true:=by exact rfl)
    (hy:∀w,S w→(execOp a.eval oi).run P w= .ok (.value v) w:=by intro w' yj;(try dsimp only at yj);(repeat(have s_:=And.left yj;replace yj:=And.right yj));go_simp;with_reducible rfl)
    (ha:a.put (some N) v=a':=by simp only[Act.put,List.setIfInBounds_toArray,List.set_cons_zero,List.set_cons_succ,fx,ic];rfl):br P md ops Q S ds (fuel+1) (lb n m) a w:=xI _ hi hN (uL HT.out HW.out hc) hQ (.inl ⟨hg,hy⟩) hS ha h
theorem kU {n m:Nat}(i:Nat) (N:Tmp) {oi:Oper}{fuel:Nat}{a:Act}{w:World}(HT:ae (gu md ops=T))
    (h:∀K:Act→World→Prop,Shut (∀a' w',S w'→(S w'→br P md ops Q S ds fuel (lb n (m|||1<<<i)) a' w')→K a' w')→if Region.wanted oi (yielded ops a.tmps)=true then Oper.wp P oi a w K Q else K (a.put (some N) undef) w)
    (hi:ops[i]? =some oi:=by exact rfl) (hN:oi.dst=some N:=by exact rfl) (hc:(oz T.2 (lb n m).toList==[i]&&(lb n m).toList.set i true==(lb n (m|||1<<<i)).toList)=true:=by kernel_rfl) (hd:i∉ds:=by decide):br P md ops Q S ds (fuel+1) (lb n m) a w:=
  abR _ hi hN (qp HT.out hc) hd h
theorem lZ {n m:Nat}{fuel:Nat}{a:Act}{w:World}(HT:ae (gu md ops=T)) (h:Q .normal a w) (hr:(oz T.2 (lb n m).toList==[])=true:=by kernel_rfl):br P md ops Q S ds fuel (lb n m) a w:=qD (abS HT.out hr) h
theorem lO (N:Tmp) {oi:Oper}{a:Act}{w:World}{K:Act→World→Prop}{f:FuncId}{fn:Func}(hf:P.funcs[f]? =some fn) {args:Array Value}{R:Ending→World→Prop}{aa:Array Operand}{ts:Array TypeId}(h:Calls P f args w R)
    (hn:∀e w',R e w'→∃v,e= .returned v∧K (a.put (some N) v) w') (hop:oi.op= .call {callee:= .value (.func f),args:=aa,argTypes:=ts}:=by exact rfl) (hargs:aa.map a.eval=args:=by(try simp only[List.map_toArray,List.map_cons,List.map_nil]);first|done|rfl|(simp only[List.length_drop,List.length_take];rfl)) (hw:Region.wanted oi (yielded ops a.tmps)=true:=by exact rfl) (hd:oi.dst=some N:=by exact rfl)
    (hname:(fn.name== "runtime.NumGoroutine")=false:=by kernel_rfl) (hb:fn.body.isSome=true:=by exact rfl):
    if Region.wanted oi (yielded ops a.tmps)=true then Oper.wp P oi a w K Q else K (a.put (some N) undef) w:=rH hf hname hb args hw hd hop hargs (h.mono hn)
theorem eZ {K W:Act→World→Prop}{S:World→Prop}(hK:Shut (∀a w,S w→(S w→W a w)→K a w)) (N:Tmp) {a a':Act}{v:Value}{w:World}(hS:S w) (h:S w→W a' w) (ha:a.put (some N) v=a':=by simp only[Act.put,List.setIfInBounds_toArray,List.set_cons_zero,List.set_cons_succ,fx,ic];rfl):K (a.put (some N) v) w:=by
  rw[ha];exact hK.out _ _ hS h
end

theorem oP {g:Nat}{cs cs':Array Value}{t:TypeId}{w w1:World}(_:ae (w.heap[g]? =some (.cells cs t (0,0)))) (hd:w1.heap[g]? =some (.cells cs' t (0,0)):=by(repeat(first|(with_reducible first|refine ct ?_ _|refine ao ?_|refine aC ?_ _)|(apply ep;rotate_left;exact ae.out (by with_reducible assumption);rotate_right)|apply iq));(first|exact ae.out (by with_reducible assumption)|exact ae.out (by assumption));(all_goals exact rfl)):w1.heap[g]? =some (.cells cs' t (0,0)):=hd
theorem rp {g:Nat}{cs:Array Value}{t:TypeId}{w w1 w2:World}(cs':Array Value) (_:ae (w.heap[g]? =some (.cells cs t (0,0)))) (hb:Below w1.heap.size w1 w2) (hd:w1.heap[g]? =some (.cells cs' t (0,0)):=by(repeat(first|(with_reducible first|refine ct ?_ _|refine ao ?_|refine aC ?_ _)|(apply ep;rotate_left;exact ae.out (by with_reducible assumption);rotate_right)|apply iq));(first|exact ae.out (by with_reducible assumption)|exact ae.out (by assumption));(all_goals exact rfl)):ae (w2.heap[g]? =some (.cells cs' t (0,0))):=⟨fT hd hb⟩
theorem wh {g:Nat}{o:Obj}{w w1 w2:World}(hW:w1=w2) (_:ae (w.heap[g]? =some o)) (hd:w1.heap[g]? =some o:=by(repeat(first|(with_reducible first|refine ct ?_ _|refine ao ?_|refine aC ?_ _)|refine ep ?_ (ae.out (by with_reducible assumption)) _));exact ae.out (by first|(with_reducible assumption)|assumption)):ae (w2.heap[g]? =some o):=⟨hW▸hd⟩
theorem xJ {g:Nat}{cs:Array Value}{t:TypeId}{w w1 w2:World}(cs':Array Value) (hW:w1=w2) (_:ae (w.heap[g]? =some (.cells cs t (0,0)))) (hd:w1.heap[g]? =some (.cells cs' t (0,0)):=by(repeat(first|(with_reducible first|refine ct ?_ _|refine ao ?_|refine aC ?_ _)|(apply ep;rotate_left;exact ae.out (by with_reducible assumption);rotate_right)|apply iq));(first|exact ae.out (by with_reducible assumption)|exact ae.out (by assumption));(all_goals exact rfl)):ae (w2.heap[g]? =some (.cells cs' t (0,0))):=⟨hW▸hd⟩
theorem wj {w w0 w1 w2:World}(hW:w1=w2) (_:ae (Below w.heap.size w w0)) (hd:Below w.heap.size w w1:=by repeat(first|(with_reducible first|exact HB.out|apply aQ|apply aT|apply ar|refine bs_ ?_ (by with_reducible assumption))|exact HB.out)):ae (Below w.heap.size w w2):=⟨hW▸hd⟩
section
variable {P:Program}{ops:Array Oper}{Q:Exit→Act→World→Prop}{md:Region.Mode}{S:World→Prop}{ds:List Nat}{T:Bool×List (List Nat×List Nat)}{B:List Nat}
theorem fU {n m:Nat}(i:Nat) (N:Tmp) {oi:Oper}{fuel:Nat}{a a':Act}{w:World}(HT:ae (gu md ops=T)) (h:br P md ops Q S ds fuel (lb n (m|||1<<<i)) a' w) (hi:ops[i]? =some oi:=by exact rfl) (hN:oi.dst=some N:=by exact rfl)
    (hc:abQ T (lb n m).toList (lb n (m|||1<<<i)).toList i=true:=by kernel_rfl) (hQ:∀c a w,Q (.panic c) (a.put oi.dst undef) w→Q (.panic c) a w:=by exact fun _ _ _ h=>h) (hg:Region.wanted oi (yielded ops a.tmps)=false:=by exact rfl)
    (ha:a.put (some N) undef=a':=by simp only[Act.put,List.setIfInBounds_toArray,List.set_cons_zero,List.set_cons_succ,fx,ic];rfl):br P md ops Q S ds (fuel+1) (lb n m) a w:=aag _ hi hN (aah HT.out hc) hQ (.inr ⟨hg,rfl⟩) ha h
theorem ra {n m:Nat}(i:Nat) (N:Tmp) {oi:Oper}{v:Value}{fuel:Nat}{a a':Act}{w:World}(h:br P md ops Q S ds fuel (lb n (m|||1<<<i)) a' w) (hi:ops[i]? =some oi:=by exact rfl) (hN:oi.dst=some N:=by exact rfl)
    (hc:aaj md ops (lb n m) (lb n (m|||1<<<i)) i=true:=by kernel_rfl) (hQ:∀c a w,Q (.panic c) (a.put oi.dst v) w→Q (.panic c) a w:=by exact fun _ _ _ h=>h) (hg:Region.wanted oi (yielded ops a.tmps)=true:=by exact rfl) (hy:∀w,(execOp a.eval oi).run P w= .ok (.value v) w:=by intro w';go_simp;with_reducible rfl)
    (ha:a.put (some N) v=a':=by simp only[Act.put,List.setIfInBounds_toArray,List.set_cons_zero,List.set_cons_succ,fx,ic];rfl):br P md ops Q S ds (fuel+1) (lb n m) a w:=aag _ hi hN hc hQ (.inl ⟨hg,hy⟩) ha h
theorem uM {n m:Nat}(i:Nat) (N:Tmp) {oi:Oper}{v:Value}{fuel:Nat}{a a':Act}{w:World}(hS:S w) (h:br P md ops Q S ds fuel (lb n (m|||1<<<i)) a' w) (hi:ops[i]? =some oi:=by exact rfl) (hN:oi.dst=some N:=by exact rfl)
    (hc:takeB md ops ds (lb n m) (lb n (m|||1<<<i)) i=true:=by kernel_rfl) (hQ:∀c a w,Q (.panic c) (a.put oi.dst v) w→Q (.panic c) a w:=by exact fun _ _ _ h=>h) (hg:Region.wanted oi (yielded ops a.tmps)=true:=by exact rfl)
    (hy:∀w,S w→(execOp a.eval oi).run P w= .ok (.value v) w:=by intro w' yj;(try dsimp only at yj);(repeat(have s_:=And.left yj;replace yj:=And.right yj));go_simp;with_reducible rfl)
    (ha:a.put (some N) v=a':=by simp only[Act.put,List.setIfInBounds_toArray,List.set_cons_zero,List.set_cons_succ,fx,ic];rfl):br P md ops Q S ds (fuel+1) (lb n m) a w:=xI _ hi hN hc hQ (.inl ⟨hg,hy⟩) hS ha h
theorem yk {n m:Nat}(i:Nat) (N:Tmp) {oi:Oper}{fuel:Nat}{a:Act}{w:World}
    (h:∀K:Act→World→Prop,Shut (∀a' w',S w'→(S w'→br P md ops Q S ds fuel (lb n (m|||1<<<i)) a' w')→K a' w')→if Region.wanted oi (yielded ops a.tmps)=true then Oper.wp P oi a w K Q else K (a.put (some N) undef) w)
    (hi:ops[i]? =some oi:=by exact rfl) (hN:oi.dst=some N:=by exact rfl) (hc:pG md ops (lb n m) (lb n (m|||1<<<i)) i=true:=by kernel_rfl) (hd:i∉ds:=by decide):br P md ops Q S ds (fuel+1) (lb n m) a w:=abR _ hi hN hc hd h
theorem s0_ {id:Nat}{a:Act}{w:World}(n:Nat) (S:World→Prop) (hS:S w.drew) (h:S w.drew→br P .any ops Q S [] n (lb n 0) a w.drew) (hm:P.follows .mixedOrders=true:=by kernel_rfl) (hn:ops.size=n:=by exact rfl) (hl:Array.replicate n false=lb n 0:=by exact rfl):(Code.region id ops true).wp P Q a w:=
  pF (lb n 0) hm hn hl hS h
end

section
variable {α:Type}{d:Kd α}{e base n g t g2 t2:Nat}{ok:Nat→Prop}{cs cs2:Array Value}{w w1 w2:World}{A:Option Addr}{c:Nat}{u v:Value}{xs:List α}
theorem wk {j:Nat}(h:Kd.R d e w base (fun k=>ok k∧k≠g) u xs):Kd.R d e (w.setCell ⟨g,j,none⟩ v) base (fun k=>ok k∧k≠g) u xs:=Kd.cO h (fun _ hk=>hk.2) v
theorem ael {j:Nat}(h:Kd.R d e w base (fun k=>(ok k∧k≠g)∧k≠g2) u xs):Kd.R d e (w.setCell ⟨g2,j,none⟩ v) base (fun k=>(ok k∧k≠g)∧k≠g2) u xs:=Kd.cO h (fun _ hk=>hk.2) v
theorem aem {j:Nat}(h:Kd.R d e w base (fun k=>(ok k∧k≠g)∧k≠g2) u xs):Kd.R d e (w.setCell ⟨g,j,none⟩ v) base (fun k=>(ok k∧k≠g)∧k≠g2) u xs:=Kd.cO h (fun _ hk=>hk.1.2) v
theorem wm (h:ae (Kd.R d e w base ok u xs)) (hd:Kd.R d e w base ok u xs→Kd.R d e w1 base ok u xs:=by intro h_;(repeat(first|(with_reducible first|exact h_|apply Kd.b_|apply Kd.cd|apply Kd.ca)))):Kd.R d e w1 base ok u xs:=(hd h.out)
theorem nN (h:ae (Kd.R d e w base ok u xs)) (hb:Below w1.heap.size w1 w2) (hd:Kd.R d e w base ok u xs→Kd.R d e w1 base ok u xs:=by intro h_;(repeat(first|(with_reducible first|exact h_|apply Kd.b_|apply Kd.cd|apply Kd.ca)))):ae (Kd.R d e w2 base ok u xs):=⟨Kd.jo (hd h.out) hb⟩
theorem nR1 (h:ae (Kd.R d e w base ok u xs)) (b:ae (w.heap[g]? =some (.cells cs t (0,0)))) (ht:∀q,q∈e::d.E→q≠t:=by decide) (hd:Kd.R d e w base (fun k=>ok k∧k≠g) u xs→Kd.R d e w1 base (fun k=>ok k∧k≠g) u xs:=by intro h_;(repeat(first|(with_reducible first|exact h_|apply Kd.b_|apply Kd.cd|apply Kd.ca)|apply wk))):Kd.R d e w1 base ok u xs:=(Kd.bb (hd (Kd.aN h.out b.out ht)) (fun _ h_=>h_.1))
theorem adF (h:ae (Kd.R d e w base ok u xs)) (b:ae (w.heap[g]? =some (.cells cs t (0,0)))) (ht:∀q,q∈e::d.E→q≠t:=by decide) (hd:Kd.R d e w base (fun k=>ok k∧k≠g) u xs→Kd.R d e w1 base (fun k=>ok k∧k≠g) u xs:=by intro h_;(repeat(first|(with_reducible first|exact h_|apply Kd.b_|apply Kd.cd|apply Kd.ca)|apply wk))):∀k,u.ownBlock=some k→k<w1.heap.size:=Kd.aaf (Kd.bb (hd (Kd.aN h.out b.out ht)) (fun _ h_=>h_.1))
theorem jq (h:ae (Kd.R d e w base ok u xs)) (b:ae (w.heap[g]? =some (.cells cs t (0,0)))) (hb:Below w1.heap.size w1 w2) (ht:∀q,q∈e::d.E→q≠t:=by decide) (hd:Kd.R d e w base (fun k=>ok k∧k≠g) u xs→Kd.R d e w1 base (fun k=>ok k∧k≠g) u xs:=by intro h_;(repeat(first|(with_reducible first|exact h_|apply Kd.b_|apply Kd.cd|apply Kd.ca)|apply wk))):ae (Kd.R d e w2 base ok u xs):=⟨Kd.jo (Kd.bb (hd (Kd.aN h.out b.out ht)) (fun _ h_=>h_.1)) hb⟩
theorem aen (h:ae (Kd.R d e w base ok u xs)) (b:ae (w.heap[g]? =some (.cells cs t (0,0)))) (hv:∀k,v.ownBlock=some k→w1.heap.size≤k) (hb:Below w1.heap.size w1 w2) (ht:∀q,q∈e::d.E→q≠t:=by decide) (hd:Kd.R d e w base (fun k=>ok k∧k≠g) u xs→Kd.R d e w1 base (fun k=>ok k∧k≠g) u xs:=by intro h_;(repeat(first|(with_reducible first|exact h_|apply Kd.b_|apply Kd.cd|apply Kd.ca)|apply wk))):ae (Kd.R d e w2 base (fun k=>ok k∧some k≠v.ownBlock) u xs):=⟨Kd.rG (Kd.bb (hd (Kd.aN h.out b.out ht)) (fun _ h_=>h_.1)) hv hb⟩
theorem lH (h:ae (Kd.R d e w base ok (.slice A n c) xs)) (b:ae (w.heap[g]? =some (.cells cs t (0,0)))) (ht:∀q,q∈e::d.E→q≠t:=by decide) (hd:Kd.R d e w base (fun k=>ok k∧k≠g) (.slice A n c) xs→Kd.R d e w1 base (fun k=>ok k∧k≠g) (.slice A n c) xs:=by intro h_;(repeat(first|(with_reducible first|exact h_|apply Kd.b_|apply Kd.cd|apply Kd.ca)|apply wk))):Kd.C d w1 A xs.length xs:=(Kd.bd (Kd.bb (hd (Kd.aN h.out b.out ht)) (fun _ h_=>h_.1))).2.2
theorem nR2 (h:ae (Kd.R d e w base ok u xs)) (g:Nat) (hm:∀k,ok k→k≠g) (hd:Kd.R d e w base (fun k=>ok k∧k≠g) u xs→Kd.R d e w1 base (fun k=>ok k∧k≠g) u xs:=by intro h_;(repeat(first|(with_reducible first|exact h_|apply Kd.b_|apply Kd.cd|apply Kd.ca)|apply wk))):Kd.R d e w1 base ok u xs:=(Kd.bb (hd (Kd.bb h.out (fun _ hk=>⟨hk,hm _ hk⟩))) (fun _ h_=>h_.1))
theorem aeo {j:Nat}(h:Kd.S d e w base (fun k=>ok k∧k≠g) u xs):Kd.S d e (w.setCell ⟨g,j,none⟩ v) base (fun k=>ok k∧k≠g) u xs:=Kd.eC h (fun _ hk=>hk.2) v
theorem nS0 (h:ae (Kd.S d e w base ok u xs)) (hd:Kd.S d e w base ok u xs→Kd.S d e w1 base ok u xs:=by intro h_;(repeat(first|(with_reducible first|exact h_|apply Kd.ey|apply Kd.eI|apply Kd.eY)))):Kd.S d e w1 base ok u xs:=(hd h.out)
theorem acN (h:ae (Kd.S d e w base ok u xs)) (hd:Kd.S d e w base ok u xs→Kd.S d e w1 base ok u xs:=by intro h_;(repeat(first|(with_reducible first|exact h_|apply Kd.ey|apply Kd.eI|apply Kd.eY)))):∀k,u.ownBlock=some k→k<w1.heap.size:=Kd.aep (hd h.out)
theorem aak (h:ae (Kd.S d e w base ok u xs)) (hb:Below w1.heap.size w1 w2) (hd:Kd.S d e w base ok u xs→Kd.S d e w1 base ok u xs:=by intro h_;(repeat(first|(with_reducible first|exact h_|apply Kd.ey|apply Kd.eI|apply Kd.eY)))):ae (Kd.S d e w2 base ok u xs):=⟨Kd.kZ (hd h.out) hb⟩
theorem acO (h:ae (Kd.S d e w base ok u xs)) (hv:∀k,v.ownBlock=some k→w1.heap.size≤k) (hb:Below w1.heap.size w1 w2) (hd:Kd.S d e w base ok u xs→Kd.S d e w1 base ok u xs:=by intro h_;(repeat(first|(with_reducible first|exact h_|apply Kd.ey|apply Kd.eI|apply Kd.eY)))):ae (Kd.S d e w2 base (fun k=>ok k∧some k≠v.ownBlock) u xs):=⟨Kd.aal (hd h.out) hv hb⟩
theorem yl (h:ae (Kd.S d e w base ok u xs)) (hb:Below w1.heap.size w1 w2) (hd:Kd.S d e w base ok u xs→Kd.S d e w1 base ok u xs:=by intro h_;(repeat(first|(with_reducible first|exact h_|apply Kd.ey|apply Kd.eI|apply Kd.eY)))):Kd.S d e w2 base (fun k=>ok k∧k<w1.heap.size) u xs:=Kd.adG (hd h.out) hb
theorem wo (h:ae (Kd.S d e w base ok (.slice A n c) xs)) (hd:Kd.S d e w base ok (.slice A n c) xs→Kd.S d e w1 base ok (.slice A n c) xs:=by intro h_;(repeat(first|(with_reducible first|exact h_|apply Kd.ey|apply Kd.eI|apply Kd.eY)))):Kd.C d w1 A xs.length xs:=(Kd.la (hd h.out)).2.2
theorem abT (h:ae (Kd.S d e w base ok u xs)) (b:ae (w.heap[g]? =some (.cells cs t (0,0)))) (hb:Below w1.heap.size w1 w2) (ht:∀q,q∈e::d.E→q≠t:=by decide) (hd:Kd.S d e w base (fun k=>ok k∧k≠g) u xs→Kd.S d e w1 base (fun k=>ok k∧k≠g) u xs:=by intro h_;(repeat(first|(with_reducible first|exact h_|apply Kd.ey|apply Kd.eI|apply Kd.eY)|apply aeo))):ae (Kd.S d e w2 base ok u xs):=⟨Kd.kZ (Kd.eS (hd (Kd.jn h.out b.out ht)) (fun _ h_=>h_.1)) hb⟩
theorem ym {v1 v2 v3:Value}(h:Kd.S d e w1 base (fun k=>ok k∧k<n) u xs) (h1:∀k,v1.ownBlock=some k→n≤k) (h2:∀k,v2.ownBlock=some k→n≤k) (h3:∀k,v3.ownBlock=some k→n≤k):ae (Kd.S d e w1 base (fun k=>(((ok k∧some k≠v1.ownBlock)∧some k≠v2.ownBlock)∧some k≠v3.ownBlock)) u xs):=⟨Kd.eS (Kd.wq (Kd.wq (Kd.wq h h1) h2) h3) (fun _ h_=>h_.1)⟩
theorem adH {j:Nat}(h:Kd.Q d e w base (fun k=>ok k∧k≠g) u xs):Kd.Q d e (w.setCell ⟨g,j,none⟩ v) base (fun k=>ok k∧k≠g) u xs:=Kd.pR h (fun _ hk=>hk.2) v
theorem adI (h:ae (Kd.Q d e w base ok u xs)) (hd:Kd.Q d e w base ok u xs→Kd.Q d e w1 base ok u xs:=by intro h_;(repeat(first|(with_reducible first|exact h_|apply Kd.iB|apply Kd.iC|apply Kd.ju)))):∀k,u.ownBlock=some k→k<w1.heap.size:=Kd.aeq (hd h.out)
theorem rb (h:ae (Kd.Q d e w base ok u xs)) (hb:Below w1.heap.size w1 w2) (hd:Kd.Q d e w base ok u xs→Kd.Q d e w1 base ok u xs:=by intro h_;(repeat(first|(with_reducible first|exact h_|apply Kd.iB|apply Kd.iC|apply Kd.ju)))):ae (Kd.Q d e w2 base ok u xs):=⟨Kd.pS (hd h.out) hb⟩
theorem nQ1 (h:ae (Kd.Q d e w base ok u xs)) (b:ae (w.heap[g]? =some (.cells cs t (0,0)))) (ht:∀q,q∈e::d.E→q≠t:=by decide) (hd:Kd.Q d e w base (fun k=>ok k∧k≠g) u xs→Kd.Q d e w1 base (fun k=>ok k∧k≠g) u xs:=by intro h_;(repeat(first|(with_reducible first|exact h_|apply Kd.iB|apply Kd.iC|apply Kd.ju)|apply adH))):Kd.Q d e w1 base ok u xs:=(Kd.mo (hd (Kd.rq h.out b.out ht)) (fun _ h_=>h_.1))
theorem acP (h:ae (Kd.Q d e w base ok u xs)) (b:ae (w.heap[g]? =some (.cells cs t (0,0)))) (hb:Below w1.heap.size w1 w2) (ht:∀q,q∈e::d.E→q≠t:=by decide) (hd:Kd.Q d e w base (fun k=>ok k∧k≠g) u xs→Kd.Q d e w1 base (fun k=>ok k∧k≠g) u xs:=by intro h_;(repeat(first|(with_reducible first|exact h_|apply Kd.iB|apply Kd.iC|apply Kd.ju)|apply adH))):ae (Kd.Q d e w2 base ok u xs):=⟨Kd.pS (Kd.mo (hd (Kd.rq h.out b.out ht)) (fun _ h_=>h_.1)) hb⟩
theorem rnS (h:ae (Kd.S d e w base ok (.slice A n c) xs)):n≤c:=(Kd.la h.out).2.1
theorem rr {a:Addr}{v:Value}{b g:Nat}(h:w.cell? a=some v) (hG:ae (w.heap.size≤g)) (he:a.block=b:=by first|exact add_block _ _|rfl):b≠g:=he▸Nat.ne_of_lt (Nat.lt_of_lt_of_le (World.block_lt_of_cell? _ _ h) hG.out)
theorem me {a:Addr}{v:Value}{b g:Nat}(j:Nat) (u:Value) (hn:b≠g) (h:w.cell? a=some v) (he:a.block=b:=by first|exact add_block _ _|rfl):(w.setCell ⟨g,j,none⟩ u).cell? a=some v:=(cell_far (p:=⟨g,j,none⟩) (he▸hn) u).trans h
end

section
variable {α:Type}{d:Kd α}{e base n g gb:Nat}{ok:Nat→Prop}{o:Obj}{w w0 W0 W W2:World}{A:Option Addr}{c:Nat}{u v:Value}{xs:List α}{row:Option Nat}
theorem mR (h:ae (Kd.R d e w base ok u xs)) (hd:Kd.R d e w base ok u xs→Kd.R d e W base ok u xs:=by intro h_;(repeat(first|(with_reducible first|exact h_|apply Kd.b_|apply Kd.cd|apply Kd.ca)))):Kd.R d e W base (fun _=>True) u xs:=Kd.bb (hd h.out) (fun _ _=>trivial)
theorem hB (_:ae (Below w.heap.size w W0)) (hb:Below W.heap.size W W2) (h:Below w.heap.size w W:=by repeat(first|(with_reducible first|exact HB.out|apply aQ|apply aT|apply ar|refine bs_ ?_ (by with_reducible assumption))|exact HB.out)):ae (Below w.heap.size w W2):=⟨gf h hb⟩
theorem fB {k:Nat}(_:ae (w.heap[gb]? =some o)) (hk:W.heap.size≤k) (hd:W.heap[gb]? =some o:=by(repeat(first|(with_reducible first|refine ct ?_ _|refine ao ?_|refine aC ?_ _)|refine ep ?_ (ae.out (by with_reducible assumption)) _));exact ae.out (by first|(with_reducible assumption)|assumption)):k≠gb:=Kd.eO hd k hk
theorem lG (_:ae (w.heap[gb]? =some o)) (hg:W.grownBy W2 row) (hne:some gb≠row) (hd:W.heap[gb]? =some o:=by(repeat(first|(with_reducible first|refine ct ?_ _|refine ao ?_|refine aC ?_ _)|refine ep ?_ (ae.out (by with_reducible assumption)) _));exact ae.out (by first|(with_reducible assumption)|assumption)):ae (W2.heap[gb]? =some o):=⟨lx hd hg hne⟩
theorem bp_ {cs:Array Value}{t:TypeId}(cs':Array Value) (_:ae (w.heap[gb]? =some (.cells cs t (0,0)))) (hg:W.grownBy W2 row) (hne:some gb≠row) (hd:W.heap[gb]? =some (.cells cs' t (0,0)):=by(repeat(first|(with_reducible first|refine ct ?_ _|refine ao ?_|refine aC ?_ _)|(apply ep;rotate_left;exact ae.out (by with_reducible assumption);rotate_right)|apply iq));(first|exact ae.out (by with_reducible assumption)|exact ae.out (by assumption));(all_goals exact rfl)):ae (W2.heap[gb]? =some (.cells cs' t (0,0))):=⟨lx hd hg hne⟩
theorem tK {cs:Array Value}{t:TypeId}{w1:World}(h:ae (Kd.R d e w base ok u xs)) (b:ae (w.heap[g]? =some (.cells cs t (0,0)))) (ht:∀q,q∈e::d.E→q≠t:=by decide) (hd:Kd.R d e w base (fun k=>ok k∧k≠g) u xs→Kd.R d e w1 base (fun k=>ok k∧k≠g) u xs:=by intro h_;(repeat(first|(with_reducible first|exact h_|apply Kd.b_|apply Kd.cd|apply Kd.ca|apply wk)))):Kd.R d e w1 base (fun _=>True) u xs:=Kd.bb (hd (Kd.aN h.out b.out ht)) (fun _ _=>trivial)
theorem sS {cs cs2:Array Value}{t t2 g2:Nat}{w1:World}(h:ae (Kd.R d e w base ok u xs)) (b:ae (w.heap[g]? =some (.cells cs t (0,0)))) (b2:ae (w.heap[g2]? =some (.cells cs2 t2 (0,0)))) (ht:∀q,q∈e::d.E→q≠t:=by decide) (ht2:∀q,q∈e::d.E→q≠t2:=by decide) (hd:Kd.R d e w base (fun k=>(ok k∧k≠g)∧k≠g2) u xs→Kd.R d e w1 base (fun k=>(ok k∧k≠g)∧k≠g2) u xs:=by intro h_;(repeat(first|(with_reducible first|exact h_|apply Kd.b_|apply Kd.cd|apply Kd.ca|apply ael|apply aem)))):Kd.R d e w1 base (fun _=>True) u xs:=Kd.bb (hd (Kd.aN (Kd.aN h.out b.out ht) b2.out ht2)) (fun _ _=>trivial)
theorem hk1 (_:ae (eK w W0 g none)) (hb:Below W.heap.size W W2) (h:eK w W g none:=by repeat(first|(with_reducible first|exact HK.out|apply eK.adJ|apply wu|apply yn|apply wv|refine aam ?_ (ae.out (by with_reducible assumption)) _)|exact HK.out)):ae (eK w W2 g none):=⟨h.trans (eK.of_below hb g none) (.inl rfl)⟩
end

theorem cU {α:Type}{p:Prop} [d:Decidable p] {x:Option α}{r:α}(h:(if p then x else none)=some r):decide p=true∧x=some r:=by
  rcases jh h with h|⟨_,h⟩
  · exact h
  · cases h
theorem ly {α:Type}{p:Prop} [d:Decidable p] {x:Option α}{r:α}(h:(if p then x else none)=some r):p∧x=some r:=⟨of_decide_eq_true (cU h).1,(cU h).2⟩
theorem am {p:Prop}(h:p):ae p:=⟨h⟩

theorem oY {p:Prop}(h:p:=by first|(rw[dd];with_reducible exact H)|(have H2_:=(Option.bind_some _ _).symm.trans H;rw[dd];with_reducible exact H2_)|(have H2_:=(Option.bind_some _ _).symm.trans H;with_reducible exact H2_)|with_reducible exact H|(rw[dd];exact H)|exact H):p:=h

theorem aab {w w':World}{cs:Array Value}{t:TypeId}(hb:Below (w.alloc (.cells cs t (0,0))).heap.size (w.alloc (.cells cs t (0,0))) w'):ae (w'.heap[w.heap.size]? =some (.cells cs t (0,0))):=⟨fT (jc _ _) hb⟩
theorem bold {w w':World}{o:Obj}(hb:Below (w.alloc o).heap.size (w.alloc o) w'):Below w.heap.size w w':=gf (aQ (Below.refl _ _) o) hb
theorem gn {w w':World}{g:Nat}{o:Obj}(h:ae (w.heap[g]? =some o)) (hb:Below w.heap.size w w'):ae (w'.heap[g]? =some o):=⟨fT h.out hb⟩
theorem aer {w:World}{g:Nat}{o:Obj}(h:ae (w.heap[g]? =some o)) (o':Obj):ae ((w.alloc o').heap[g]? =some o):=⟨aC h.out o'⟩
theorem tf {w w':World}{g:Nat}{o:Obj}{S:Nat→Prop}(h:ae (w.heap[g]? =some o)) (hk:Kept w w' S) (hn:¬S g):ae (w'.heap[g]? =some o):=⟨uN h.out hk hn⟩
section
variable {α:Type}{d:Kd α}{e base n:Nat}{ok:Nat→Prop}{w w1:World}{A:Option Addr}{c:Nat}{v:Value}{xs:List α}
theorem rS (_:ae (Kd.S d e w base ok (.slice A n c) xs)) (hd:Kd.S d e w1 base ok (.slice A n c) xs:=by(with_reducible repeat(first|apply Kd.ey|apply Kd.eI|apply Kd.eY));exact ae.out (by first|(with_reducible assumption)|assumption)):Kd.C d w1 A xs.length xs:=(Kd.la hd).2.2
theorem rl (h:ae (Kd.S d e w base ok (.slice A n c) xs)):xs.length≤c:=by have:=(Kd.la h.out).1;have:=(Kd.la h.out).2.1;omega
theorem sb (h:ae (Kd.S d e w base ok v xs)) (hb:Below w.heap.size w w1):ae (Kd.S d e w1 base ok v xs):=⟨Kd.kZ h.out hb⟩
end

theorem sk {α:Type}{d:Kd α}{e:Nat}{w w':World}{base:Nat}{ok S:Nat→Prop}{v:Value}{xs:List α}(h:ae (Kd.S d e w base ok v xs)) (hk:Kept w w' S) (hn:∀k,ok k→¬S k):ae (Kd.S d e w' base ok v xs):=⟨Kd.acQ h.out hk hn⟩
theorem rk {α:Type}{d:Kd α}{e:Nat}{w w':World}{base:Nat}{ok S:Nat→Prop}{v:Value}{xs:List α}(h:ae (Kd.R d e w base ok v xs)) (hk:Kept w w' S) (hn:∀k,ok k→¬S k):ae (Kd.R d e w' base ok v xs):=⟨Kd.pH h.out hk hn⟩
theorem nC {w:World}{g:Nat}{t:TypeId}{v0 v1:Value}(h:ae (w.heap[g]? =some (.cells #[v0,v1] t (0,0)))):∀o,((w.alloc o).cell? ⟨g,0,none⟩=some v0∧(w.alloc o).cell? ⟨g,1,none⟩=some v1):=fun o=>(z2 (aer h o)).1
theorem uJ {α:Type}{d:Kd α}{e:Nat}{w':World}{base:Nat}{v:Value}{xs:List α}(h:Kd.S d e w' base (fun _=>True) v xs) (lo B:Nat) (hl:lo≤base) (hB:B≤base):ae (Kd.S d e w' B (fun k=>lo≤k∧k<w'.heap.size) v xs):=⟨Kd.nM (Kd.eS (Kd.kY h) (fun _ hk=>⟨Nat.le_trans hl hk.2.1,hk.2.2.1⟩)) hB⟩
theorem acR {α:Type}{d:Kd α}{e:Nat}{w':World}{base:Nat}{v:Value}{xs:List α}(h:Kd.R d e w' base (fun _=>True) v xs) (lo B:Nat) (hl:lo≤base) (hB:B≤base):ae (Kd.R d e w' B (fun k=>lo≤k∧k<w'.heap.size) v xs):=⟨Kd.au (Kd.bb (Kd.jb h) (fun _ hk=>⟨Nat.le_trans hl hk.2.1,hk.2.2.1⟩)) hB⟩
theorem xH {w:World}{g:Nat}{o:Obj}(h:ae (w.heap[g]? =some o)):ae (w.drew.heap[g]? =some o):=⟨ao h.out⟩
theorem acv {α:Type}{d:Kd α}{e base:Nat}{ok:Nat→Prop}{w:World}{v:Value}{xs:List α}(h:ae (Kd.S d e w base ok v xs)):ae (Kd.S d e w.drew base ok v xs):=⟨Kd.eY h.out⟩
section
variable {α:Type}{d:Kd α}{e base n:Nat}{ok S:Nat→Prop}{w w1:World}{A:Option Addr}{c:Nat}{v:Value}{xs:List α}
end
theorem uO {α:Type}(cur inner vs:List α) (p z:Nat) (hv:vs.length=z) (hp:p≤inner.length) (hT:cur.take p=inner.take p) (hl:p+z≤cur.length) (c1:List α) (h1:c1=cur.take (p+z)++inner.drop p++cur.drop (p+z+(inner.drop p).length)):
    (c1.take p++vs++c1.drop (p+vs.length)).take (inner.length+z)=inner.take p++vs++inner.drop p:=by
  have hct:(cur.take (p+z)).length=p+z:=by rw[List.length_take];omega
  have e1:c1.take p=inner.take p:=by
    rw[h1,List.append_assoc,List.take_append_of_le_length (by omega),List.take_take,Nat.min_eq_left (by omega),hT]
  have e2:c1.drop (p+vs.length)=inner.drop p++cur.drop (p+z+(inner.drop p).length):=by
    rw[h1,hv,List.append_assoc,List.drop_left' hct]
  rw[e1,e2,←List.append_assoc];refine List.take_left' ?_;simp only[List.length_append,List.length_take,List.length_drop]
  omega
theorem th {α:Type}(row inner vs:List α) (p z:Nat) (hv:vs.length=z) (hp:p≤inner.length) (hT:row.take p=inner.take p) (c1:List α) (hl:p≤row.length) (h1:c1=row.take p++vs++row.drop (p+vs.length)):
    (c1.take (p+z)++inner.drop p++c1.drop (p+z+(inner.drop p).length)).take (inner.length+z)=inner.take p++vs++inner.drop p:=by
  have e1:c1.take (p+z)=inner.take p++vs:=by
    rw[h1,hT];exact List.take_left' (by simp only[List.length_append,List.length_take];omega)
  rw[e1];refine List.take_left' ?_;simp only[List.length_append,List.length_take,List.length_drop]
  omega
theorem ru {sz e:Nat}{W:World}{base:Nat}{ok:Nat→Prop}{g n c:Nat}{rows:List (List Value)}{cur:Array Value}(hb:W.heap[g]? =some (.cells cur e (0,0))) (hcs:cur.size=c*sz) (hnc:n≤c) (hcm:c≤maxLen) (hbg:base≤g) (hok:ok g) (hrl:rows.length=n)
    (hr:cP (fun x cs=>cs=x∧cs.length=sz∧∀u∈cs,u.oneCell'=true) sz rows (cur.toList.take (n*sz))):(Kd.raw sz).R e W base ok (.slice (some ⟨g,0,none⟩) n c) rows:=by
  subst hrl;exact⟨fun k hk=>by simp only[Value.ownBlock,Option.some.injEq]at hk;exact hk▸hok,_,⟨hr.1,.inr ⟨g,c,cur,rfl,hbg,hb,hnc,hcm,hcs,rfl⟩⟩,hr⟩
theorem uP {sz i:Nat}{rows:List (List Value)}{inner vs:List Value}(h:cP (fun x cs=>cs=x∧cs.length=sz∧∀u∈cs,u.oneCell'=true) sz rows inner) (hi:i≤rows.length) (hvl:vs.length=sz) (h1:∀u∈vs,u.oneCell'=true):
    cP (fun x cs=>cs=x∧cs.length=sz∧∀u∈cs,u.oneCell'=true) sz (rows.take i++[vs]++rows.drop i) (inner.take (i*sz)++vs++inner.drop (i*sz)):=
  Kd.oA (cP.snoc (Kd.yo h hi) ⟨rfl,hvl,h1⟩ hvl) (Kd.ti h)
theorem pa (w:World) (g a b:Nat) (xs ys:List Value):w.grownBy ((w.drew.setCells g a xs).setCells g b ys) (some g):=by
  obtain⟨a1,a2,a3,a4⟩:=iV g xs a w.drew;obtain⟨b1,b2,b3,b4⟩:=iV g ys b (w.drew.setCells g a xs)
  exact⟨b1.trans a1,b2.trans a2,b3.trans a3,by rw[b4,a4];exact Nat.le_refl _,fun k _ hk=>by
    have hkg:k≠g:=fun he=>hk (by rw[he])
    rw[fw _ _ k hkg,fw _ _ k hkg];rfl⟩
theorem kI (w:World) (o:Obj) (a b:Nat) (xs ys:List Value) (row:Option Nat):w.grownBy ((((w.alloc o).drew.setCells w.heap.size a xs).drew).setCells w.heap.size b ys) row:=by
  obtain⟨a1,a2,a3,a4⟩:=iV w.heap.size xs a (w.alloc o).drew;obtain⟨b1,b2,b3,b4⟩:=iV w.heap.size ys b ((w.alloc o).drew.setCells w.heap.size a xs).drew
  exact⟨b1.trans a1,b2.trans a2,b3.trans a3,by rw[b4];show _≤((w.alloc o).drew.setCells w.heap.size a xs).heap.size;rw[a4];show _≤(w.alloc o).heap.size;rw[World.size_alloc];omega,fun k hk _=>by
    have hkg:k≠w.heap.size:=by omega
    rw[fw _ _ k hkg]
    show((w.alloc o).drew.setCells w.heap.size a xs).heap[k]? =_
    rw[fw _ _ k hkg]
    exact Below.heap_alloc w o k hk⟩
/-- A row of flat structs as raw cells, and back. -/
theorem aes {α:Type}{d:Kd α}{e:Nat}{W:World}{base:Nat}{ok:Nat→Prop}{v:Value}{xs:List α}(enc:α→List Value) (h1:∀(w:World) (b:Nat) (o:Nat→Prop) (x:α) (cs:List Value),d.M w b o x cs→cs=enc x) (h:d.R e W base ok v xs):(Kd.raw d.sz).R e W base ok v (xs.map enc):=by
  obtain⟨h0,inner,ho,hr⟩:=h;refine⟨h0,inner,by rw[List.length_map];exact ho,by rw[List.length_map];exact hr.1,fun j p hj=> ?_⟩;rw[List.getElem?_map]at hj;obtain⟨x,hx,rfl⟩:=Option.map_eq_some_iff.1 hj;have hm:=hr.2 j x hx;have hk:=d.eT hm;exact⟨h1 _ _ _ _ _ hm,d.iD hk,d.ie hk⟩
theorem acS {α:Type}{d:Kd α}{e:Nat}{W:World}{base:Nat}{ok:Nat→Prop}{v:Value}{xs:List α}(enc:α→List Value) (h1:∀(w:World) (b:Nat) (o:Nat→Prop) (x:α),d.M w b o x (enc x)) (h:(Kd.raw d.sz).R e W base ok v (xs.map enc)):d.R e W base ok v xs:=by
  obtain⟨h0,inner,ho,hr⟩:=h;rw[List.length_map]at ho;have hl:=hr.1;rw[List.length_map]at hl;refine⟨h0,inner,ho,hl,fun j x hx=> ?_⟩;have hrow:=(hr.2 j (enc x) (by rw[List.getElem?_map,hx];rfl)).1
  show d.M _ _ _ x ((inner.drop (j*d.sz)).take d.sz)
  rw[show(inner.drop (j*d.sz)).take d.sz=enc x from hrow];exact h1 _ _ _ _
theorem abU:∀(x y:List UInt8),(!Op.bytesLess x y&& !(x==y))=Op.bytesLess y x
  |[],[]=>rfl
  |_::_,[]=>by simp[Op.bytesLess]
  |[],_::_=>by simp[Op.bytesLess]
  |a::x,b::y=>by
    have ih:=abU x y
    by_cases h2:a=b
    · subst h2;simp only[Op.bytesLess,UInt8.lt_irrefl,decide_false,Bool.false_or,beq_self_eq_true,Bool.true_and,List.cons_beq_cons];exact ih
    · have h3:(a==b)=false:=by simpa using h2
      have h4:(b==a)=false:=by simpa using fun h=>h2 h.symm
      by_cases h1:a<b
      · have h5:¬b<a:=UInt8.lt_asymm h1;simp[Op.bytesLess,h1,h3,h4,h5]
      · have h5:b<a:=UInt8.lt_of_le_of_ne (UInt8.not_lt.1 h1) (fun h=>h2 h.symm);simp[Op.bytesLess,h1,h3,h4,h5]



def adK:Option Int→Value
  |none=> .nilIface
  |some c=> .iface 0 (.int .i64 c)
theorem ed:adK none= .nilIface:=rfl
theorem ee (c:Int):adK (some c)= .iface 0 (.int .i64 c):=rfl

theorem info3:(Tryz.prog.info? 3).map (fun i=>(i.zero,i.size,i.bytes))=some (some (.int .i64 0),1,8):=by kernel_rfl
theorem info5:(Tryz.prog.info? 5).map (fun i=>(i.zero,i.size,i.bytes))=some (some (.int .u8 0),1,1):=by kernel_rfl
theorem info9:(Tryz.prog.info? 9).map (fun i=>(i.zero,i.size,i.bytes))=some (some (.string ⟨#[]⟩),1,16):=by kernel_rfl
theorem lz:(Tryz.prog.info? 58).map (fun i=>(i.zero,i.size,i.bytes))=some (some (.agg #[(.int .i64 0),(.int .i64 0),(.int .i64 0),(.slice none 0 0),(.slice none 0 0),(.slice none 0 0)]),6,96):=by kernel_rfl
theorem pI:(Tryz.prog.info? 75).map (fun i=>(i.zero,i.size,i.bytes))=some (some (.agg #[(.string ⟨#[]⟩),(.int .i64 0)]),2,24):=by kernel_rfl
theorem wx:(Tryz.prog.info? 82).map (fun i=>(i.zero,i.size,i.bytes))=some (some (.agg #[(.string ⟨#[]⟩),(.string ⟨#[]⟩)]),2,32):=by kernel_rfl
-- the values' own types
/-! #### struct type 131 -/
structure kt where
  f0:ByteArray
  f1:Int
def z131:kt:=⟨(⟨#[]⟩:ByteArray),(0:Int)⟩
def rf:Kd kt:=Kd.iso (Kd.pair Kd.string (Kd.int .i64)) (fun x:kt=>(x.f0,x.f1))
theorem yp {w:World}{x:kt}{cs:List Value}(h:rf.K w x cs):cs=[.string x.f0,.int .i64 x.f1]:=by
  obtain⟨_,_,rfl,rfl,rfl⟩:=h;exact rfl
def iE (xs:List kt) (i:Int):kt:=xs.getD i.toNat z131
theorem abV {w:World}{A:Option Addr}{n:Nat}{xs:List kt}(h:Kd.C rf w A n xs) (i:Int) (h0:0≤i) (h1:i<n):∃ad,A=some ad∧w.cell? (ad.add (i.toNat*2))=some (.string (iE xs i).f0)∧w.cell? ⟨(ad.add (i.toNat*2)).block,(ad.add (i.toNat*2)).off+1,none⟩=some (.int .i64 (iE xs i).f1):=by
  obtain⟨ad,c,e,_,hK,hc0⟩:=Kd.og h z131 i h0 h1;have hc:∀j u,c[j]? =some u→w.cell? (ad.add (i.toNat*2+j))=some u:=hc0;obtain rfl:=yp hK;exact⟨ad,e,hc 0 _ rfl,by rw[←gr _ _ 1 (by omega)];exact hc 1 _ rfl⟩
theorem tL {w W:World}{A:Option Addr}{n:Nat}{xs:List kt}(h:ae (Kd.C rf w A n xs)) (hb:ae (Below w.heap.size w W)) (i:Int) (h0:0≤i) (h1:i<n):∃ad,A=some ad∧W.cell? (ad.add (i.toNat*2))=some (.string (iE xs i).f0)∧W.cell? ⟨(ad.add (i.toNat*2)).block,(ad.add (i.toNat*2)).off+1,none⟩=some (.int .i64 (iE xs i).f1):=by
  obtain⟨ad,h0_,h1_,h2_⟩:=abV h.out i h0 h1;exact⟨ad,h0_,cB hb h1_,cB hb h2_⟩

/-! #### struct type 133 -/
structure ku where
  f0:ByteArray
  f1:ByteArray
def adL:ku:=⟨(⟨#[]⟩:ByteArray),(⟨#[]⟩:ByteArray)⟩
def rg:Kd ku:=Kd.iso (Kd.pair Kd.string Kd.string) (fun x:ku=>(x.f0,x.f1))
theorem yq {w:World}{x:ku}{cs:List Value}(h:rg.K w x cs):cs=[.string x.f0,.string x.f1]:=by
  obtain⟨_,_,rfl,rfl,rfl⟩:=h;exact rfl
def iu (xs:List ku) (i:Int):ku:=xs.getD i.toNat adL
theorem abW {w:World}{A:Option Addr}{n:Nat}{xs:List ku}(h:Kd.C rg w A n xs) (i:Int) (h0:0≤i) (h1:i<n):∃ad,A=some ad∧w.cell? (ad.add (i.toNat*2))=some (.string (iu xs i).f0)∧w.cell? ⟨(ad.add (i.toNat*2)).block,(ad.add (i.toNat*2)).off+1,none⟩=some (.string (iu xs i).f1):=by
  obtain⟨ad,c,e,_,hK,hc0⟩:=Kd.og h adL i h0 h1;have hc:∀j u,c[j]? =some u→w.cell? (ad.add (i.toNat*2+j))=some u:=hc0;obtain rfl:=yq hK;exact⟨ad,e,hc 0 _ rfl,by rw[←gr _ _ 1 (by omega)];exact hc 1 _ rfl⟩
theorem tM {w W:World}{A:Option Addr}{n:Nat}{xs:List ku}(h:ae (Kd.C rg w A n xs)) (hb:ae (Below w.heap.size w W)) (i:Int) (h0:0≤i) (h1:i<n):∃ad,A=some ad∧W.cell? (ad.add (i.toNat*2))=some (.string (iu xs i).f0)∧W.cell? ⟨(ad.add (i.toNat*2)).block,(ad.add (i.toNat*2)).off+1,none⟩=some (.string (iu xs i).f1):=by
  obtain⟨ad,h0_,h1_,h2_⟩:=abW h.out i h0 h1;exact⟨ad,h0_,cB hb h1_,cB hb h2_⟩

/-! #### struct type 92 -/
structure nD where
  f0:Int
  f1:Int
  f2:Int
  f3:(List Int)
  f4:(List kt)
  f5:(List ku)
def z92:nD:=⟨(0:Int),(0:Int),(0:Int),([]:List Int),([]:List kt),([]:List ku)⟩
def k92:Kd nD:=Kd.iso (Kd.pair (Kd.int .i64) (Kd.pair (Kd.int .i64) (Kd.pair (Kd.int .i64) (Kd.pair (Kd.slice 5 (Kd.int .u8)) (Kd.pair (Kd.slice 131 rf) (Kd.slice 133 rg)))))) (fun x:nD=>(x.f0,x.f1,x.f2,x.f3,x.f4,x.f5))
theorem aan {w:World}{x:nD}{cs:List Value}(h:k92.K w x cs):∃A3 c3 A4 c4 A5 c5,cs=[.int .i64 x.f0,.int .i64 x.f1,.int .i64 x.f2,.slice A3 x.f3.length c3,.slice A4 x.f4.length c4,.slice A5 x.f5.length c5]∧x.f3.length≤c3∧(Kd.int .u8).C w A3 x.f3.length x.f3∧x.f4.length≤c4∧rf.C w A4 x.f4.length x.f4∧x.f5.length≤c5∧rg.C w A5 x.f5.length x.f5:=by
  obtain⟨_,_,rfl,rfl,⟨_,_,rfl,rfl,⟨_,_,rfl,rfl,⟨_,_,rfl,⟨A3,c3,rfl,l3,g3⟩,⟨_,_,rfl,⟨A4,c4,rfl,l4,g4⟩,⟨A5,c5,rfl,l5,g5⟩⟩⟩⟩⟩⟩:=h;exact⟨A3,c3,A4,c4,A5,c5,rfl,l3,g3,l4,g4,l5,g5⟩
def cJ (xs:List nD) (i:Int):nD:=xs.getD i.toNat z92
theorem acT {w:World}{A:Option Addr}{n:Nat}{xs:List nD}(h:Kd.C k92 w A n xs) (i:Int) (h0:0≤i) (h1:i<n):∃ad A3 c3 A4 c4 A5 c5,A=some ad∧w.cell? (ad.add (i.toNat*6))=some (.int .i64 (cJ xs i).f0)∧w.cell? ⟨(ad.add (i.toNat*6)).block,(ad.add (i.toNat*6)).off+1,none⟩=some (.int .i64 (cJ xs i).f1)∧w.cell? ⟨(ad.add (i.toNat*6)).block,(ad.add (i.toNat*6)).off+2,none⟩=some (.int .i64 (cJ xs i).f2)∧w.cell? ⟨(ad.add (i.toNat*6)).block,(ad.add (i.toNat*6)).off+3,none⟩=some (.slice A3 (cJ xs i).f3.length c3)∧w.cell? ⟨(ad.add (i.toNat*6)).block,(ad.add (i.toNat*6)).off+4,none⟩=some (.slice A4 (cJ xs i).f4.length c4)∧w.cell? ⟨(ad.add (i.toNat*6)).block,(ad.add (i.toNat*6)).off+5,none⟩=some (.slice A5 (cJ xs i).f5.length c5)∧(cJ xs i).f3.length≤c3∧(Kd.int .u8).C w A3 (cJ xs i).f3.length (cJ xs i).f3∧(cJ xs i).f4.length≤c4∧rf.C w A4 (cJ xs i).f4.length (cJ xs i).f4∧(cJ xs i).f5.length≤c5∧rg.C w A5 (cJ xs i).f5.length (cJ xs i).f5:=by
  obtain⟨ad,c,e,_,hK,hc0⟩:=Kd.og h z92 i h0 h1;have hc:∀j u,c[j]? =some u→w.cell? (ad.add (i.toNat*6+j))=some u:=hc0;obtain⟨A3,c3,A4,c4,A5,c5,rfl,l3,g3,l4,g4,l5,g5⟩:=aan hK;exact⟨ad,A3,c3,A4,c4,A5,c5,e,hc 0 _ rfl,by rw[←gr _ _ 1 (by omega)];exact hc 1 _ rfl,by rw[←gr _ _ 2 (by omega)];exact hc 2 _ rfl,by rw[←gr _ _ 3 (by omega)];exact hc 3 _ rfl,by rw[←gr _ _ 4 (by omega)];exact hc 4 _ rfl,by rw[←gr _ _ 5 (by omega)];exact hc 5 _ rfl,l3,g3,l4,g4,l5,g5⟩
theorem wy {w W:World}{A:Option Addr}{n:Nat}{xs:List nD}(h:ae (Kd.C k92 w A n xs)) (hb:ae (Below w.heap.size w W)) (i:Int) (h0:0≤i) (h1:i<n):∃ad A3 c3 A4 c4 A5 c5,A=some ad∧W.cell? (ad.add (i.toNat*6))=some (.int .i64 (cJ xs i).f0)∧W.cell? ⟨(ad.add (i.toNat*6)).block,(ad.add (i.toNat*6)).off+1,none⟩=some (.int .i64 (cJ xs i).f1)∧W.cell? ⟨(ad.add (i.toNat*6)).block,(ad.add (i.toNat*6)).off+2,none⟩=some (.int .i64 (cJ xs i).f2)∧W.cell? ⟨(ad.add (i.toNat*6)).block,(ad.add (i.toNat*6)).off+3,none⟩=some (.slice A3 (cJ xs i).f3.length c3)∧W.cell? ⟨(ad.add (i.toNat*6)).block,(ad.add (i.toNat*6)).off+4,none⟩=some (.slice A4 (cJ xs i).f4.length c4)∧W.cell? ⟨(ad.add (i.toNat*6)).block,(ad.add (i.toNat*6)).off+5,none⟩=some (.slice A5 (cJ xs i).f5.length c5)∧ae ((cJ xs i).f3.length≤c3)∧ae ((Kd.int .u8).C w A3 (cJ xs i).f3.length (cJ xs i).f3)∧ae ((cJ xs i).f4.length≤c4)∧ae (rf.C w A4 (cJ xs i).f4.length (cJ xs i).f4)∧ae ((cJ xs i).f5.length≤c5)∧ae (rg.C w A5 (cJ xs i).f5.length (cJ xs i).f5):=by
  obtain⟨ad,A3,c3,A4,c4,A5,c5,h0_,h1_,h2_,h3_,h4_,h5_,h6_,h7_,h8_,h9_,acU,acV,acW⟩:=acT h.out i h0 h1;exact⟨ad,A3,c3,A4,c4,A5,c5,h0_,cB hb h1_,cB hb h2_,cB hb h3_,cB hb h4_,cB hb h5_,cB hb h6_,⟨h7_⟩,⟨h8_⟩,⟨h9_⟩,⟨acU⟩,⟨acV⟩,⟨acW⟩⟩

/-! #### struct type 75 -/
structure cz where
  f0:ByteArray
  f1:Int
def z75:cz:=⟨(⟨#[]⟩:ByteArray),(0:Int)⟩
def fH:Kd cz:=Kd.iso (Kd.pair Kd.string (Kd.int .i64)) (fun x:cz=>(x.f0,x.f1))
theorem aao {w:World}{x:cz}{cs:List Value}(h:fH.K w x cs):cs=[.string x.f0,.int .i64 x.f1]:=by
  obtain⟨_,_,rfl,rfl,rfl⟩:=h;exact rfl
theorem ig {w:World}{base:Nat}{ok:Nat→Prop}{x:cz}{cs:List Value}(h:fH.M w base ok x cs):cs=[.string x.f0,.int .i64 x.f1]:=by
  obtain⟨_,_,rfl,rfl,rfl⟩:=h;exact rfl
theorem ld (w:World) (base:Nat) (ok:Nat→Prop) (x:cz):fH.M w base ok x [.string x.f0,.int .i64 x.f1]:=⟨[.string x.f0],[.int .i64 x.f1],rfl,rfl,rfl⟩
def al (xs:List cz) (i:Int):cz:=xs.getD i.toNat z75
theorem cV {w:World}{A:Option Addr}{n:Nat}{xs:List cz}(h:Kd.C fH w A n xs) (i:Int) (h0:0≤i) (h1:i<n):∃ad,A=some ad∧w.cell? (ad.add (i.toNat*2))=some (.string (al xs i).f0)∧w.cell? ⟨(ad.add (i.toNat*2)).block,(ad.add (i.toNat*2)).off+1,none⟩=some (.int .i64 (al xs i).f1):=by
  obtain⟨ad,c,e,_,hK,hc0⟩:=Kd.og h z75 i h0 h1;have hc:∀j u,c[j]? =some u→w.cell? (ad.add (i.toNat*2+j))=some u:=hc0;obtain rfl:=aao hK;exact⟨ad,e,hc 0 _ rfl,by rw[←gr _ _ 1 (by omega)];exact hc 1 _ rfl⟩
theorem kM {w W:World}{A:Option Addr}{n:Nat}{xs:List cz}(h:ae (Kd.C fH w A n xs)) (hb:ae (Below w.heap.size w W)) (i:Int) (h0:0≤i) (h1:i<n):∃ad,A=some ad∧W.cell? (ad.add (i.toNat*2))=some (.string (al xs i).f0)∧W.cell? ⟨(ad.add (i.toNat*2)).block,(ad.add (i.toNat*2)).off+1,none⟩=some (.int .i64 (al xs i).f1):=by
  obtain⟨ad,h0_,h1_,h2_⟩:=cV h.out i h0 h1;exact⟨ad,h0_,cB hb h1_,cB hb h2_⟩

/-! #### struct type 82 -/
structure ei where
  f0:ByteArray
  f1:ByteArray
def z82:ei:=⟨(⟨#[]⟩:ByteArray),(⟨#[]⟩:ByteArray)⟩
def ji:Kd ei:=Kd.iso (Kd.pair Kd.string Kd.string) (fun x:ei=>(x.f0,x.f1))
theorem aap {w:World}{x:ei}{cs:List Value}(h:ji.K w x cs):cs=[.string x.f0,.string x.f1]:=by
  obtain⟨_,_,rfl,rfl,rfl⟩:=h;exact rfl
theorem mf {w:World}{base:Nat}{ok:Nat→Prop}{x:ei}{cs:List Value}(h:ji.M w base ok x cs):cs=[.string x.f0,.string x.f1]:=by
  obtain⟨_,_,rfl,rfl,rfl⟩:=h;exact rfl
theorem rv (w:World) (base:Nat) (ok:Nat→Prop) (x:ei):ji.M w base ok x [.string x.f0,.string x.f1]:=⟨[.string x.f0],[.string x.f1],rfl,rfl,rfl⟩
def av (xs:List ei) (i:Int):ei:=xs.getD i.toNat z82
theorem ej {w:World}{A:Option Addr}{n:Nat}{xs:List ei}(h:Kd.C ji w A n xs) (i:Int) (h0:0≤i) (h1:i<n):∃ad,A=some ad∧w.cell? (ad.add (i.toNat*2))=some (.string (av xs i).f0)∧w.cell? ⟨(ad.add (i.toNat*2)).block,(ad.add (i.toNat*2)).off+1,none⟩=some (.string (av xs i).f1):=by
  obtain⟨ad,c,e,_,hK,hc0⟩:=Kd.og h z82 i h0 h1;have hc:∀j u,c[j]? =some u→w.cell? (ad.add (i.toNat*2+j))=some u:=hc0;obtain rfl:=aap hK;exact⟨ad,e,hc 0 _ rfl,by rw[←gr _ _ 1 (by omega)];exact hc 1 _ rfl⟩
theorem rI {w W:World}{A:Option Addr}{n:Nat}{xs:List ei}(h:ae (Kd.C ji w A n xs)) (hb:ae (Below w.heap.size w W)) (i:Int) (h0:0≤i) (h1:i<n):∃ad,A=some ad∧W.cell? (ad.add (i.toNat*2))=some (.string (av xs i).f0)∧W.cell? ⟨(ad.add (i.toNat*2)).block,(ad.add (i.toNat*2)).off+1,none⟩=some (.string (av xs i).f1):=by
  obtain⟨ad,h0_,h1_,h2_⟩:=ej h.out i h0 h1;exact⟨ad,h0_,cB hb h1_,cB hb h2_⟩

/-! #### struct type 58 -/
structure bf where
  f0:Int
  f1:Int
  f2:Int
  f3:(List Int)
  f4:(List cz)
  f5:(List ei)
def z58:bf:=⟨(0:Int),(0:Int),(0:Int),([]:List Int),([]:List cz),([]:List ei)⟩
def fK:Kd bf:=Kd.iso (Kd.pair (Kd.int .i64) (Kd.pair (Kd.int .i64) (Kd.pair (Kd.int .i64) (Kd.pair (Kd.slice 5 (Kd.int .u8)) (Kd.pair (Kd.slice 75 fH) (Kd.slice 82 ji)))))) (fun x:bf=>(x.f0,x.f1,x.f2,x.f3,x.f4,x.f5))
theorem oC {w:World}{x:bf}{cs:List Value}(h:fK.K w x cs):∃A3 c3 A4 c4 A5 c5,cs=[.int .i64 x.f0,.int .i64 x.f1,.int .i64 x.f2,.slice A3 x.f3.length c3,.slice A4 x.f4.length c4,.slice A5 x.f5.length c5]∧x.f3.length≤c3∧(Kd.int .u8).C w A3 x.f3.length x.f3∧x.f4.length≤c4∧fH.C w A4 x.f4.length x.f4∧x.f5.length≤c5∧ji.C w A5 x.f5.length x.f5:=by
  obtain⟨_,_,rfl,rfl,⟨_,_,rfl,rfl,⟨_,_,rfl,rfl,⟨_,_,rfl,⟨A3,c3,rfl,l3,g3⟩,⟨_,_,rfl,⟨A4,c4,rfl,l4,g4⟩,⟨A5,c5,rfl,l5,g5⟩⟩⟩⟩⟩⟩:=h;exact⟨A3,c3,A4,c4,A5,c5,rfl,l3,g3,l4,g4,l5,g5⟩
theorem qq {w:World}{base:Nat}{ok:Nat→Prop}{x:bf}{cs:List Value}(h:fK.M w base ok x cs):∃v3 v4 v5,cs=[.int .i64 x.f0,.int .i64 x.f1,.int .i64 x.f2,v3,v4,v5]∧(Kd.int .u8).R 5 w base ok v3 x.f3∧fH.R 75 w base ok v4 x.f4∧ji.R 82 w base ok v5 x.f5:=by
  obtain⟨_,_,rfl,rfl,⟨_,_,rfl,rfl,⟨_,_,rfl,rfl,⟨_,_,rfl,⟨v3,rfl,g3⟩,⟨_,_,rfl,⟨v4,rfl,g4⟩,⟨v5,rfl,g5⟩⟩⟩⟩⟩⟩:=h;exact⟨v3,v4,v5,rfl,g3,g4,g5⟩
theorem acX (w:World) (x:bf) {A3:Option Addr}{c3:Nat}(l3:x.f3.length≤c3) (g3:(Kd.int .u8).C w A3 x.f3.length x.f3) {A4:Option Addr}{c4:Nat}(l4:x.f4.length≤c4) (g4:fH.C w A4 x.f4.length x.f4) {A5:Option Addr}{c5:Nat}(l5:x.f5.length≤c5) (g5:ji.C w A5 x.f5.length x.f5):fK.K w x [.int .i64 x.f0,.int .i64 x.f1,.int .i64 x.f2,.slice A3 x.f3.length c3,.slice A4 x.f4.length c4,.slice A5 x.f5.length c5]:=⟨[.int .i64 x.f0],[.int .i64 x.f1,.int .i64 x.f2,.slice A3 x.f3.length c3,.slice A4 x.f4.length c4,.slice A5 x.f5.length c5],rfl,rfl,⟨[.int .i64 x.f1],[.int .i64 x.f2,.slice A3 x.f3.length c3,.slice A4 x.f4.length c4,.slice A5 x.f5.length c5],rfl,rfl,⟨[.int .i64 x.f2],[.slice A3 x.f3.length c3,.slice A4 x.f4.length c4,.slice A5 x.f5.length c5],rfl,rfl,⟨[.slice A3 x.f3.length c3],[.slice A4 x.f4.length c4,.slice A5 x.f5.length c5],rfl,⟨A3,c3,rfl,l3,g3⟩,⟨[.slice A4 x.f4.length c4],[.slice A5 x.f5.length c5],rfl,⟨A4,c4,rfl,l4,g4⟩,⟨A5,c5,rfl,l5,g5⟩⟩⟩⟩⟩⟩
theorem pb (w:World) (base:Nat) (ok:Nat→Prop) (x:bf) {v3:Value}(g3:(Kd.int .u8).R 5 w base ok v3 x.f3) {v4:Value}(g4:fH.R 75 w base ok v4 x.f4) {v5:Value}(g5:ji.R 82 w base ok v5 x.f5):fK.M w base ok x [.int .i64 x.f0,.int .i64 x.f1,.int .i64 x.f2,v3,v4,v5]:=⟨[.int .i64 x.f0],[.int .i64 x.f1,.int .i64 x.f2,v3,v4,v5],rfl,rfl,⟨[.int .i64 x.f1],[.int .i64 x.f2,v3,v4,v5],rfl,rfl,⟨[.int .i64 x.f2],[v3,v4,v5],rfl,rfl,⟨[v3],[v4,v5],rfl,⟨v3,rfl,g3⟩,⟨[v4],[v5],rfl,⟨v4,rfl,g4⟩,⟨v5,rfl,g5⟩⟩⟩⟩⟩⟩
theorem tj {W:World}{ok:Nat→Prop}{x:bf}{cs:List Value}(h:Kd.FK fK W ok x cs):∃A3 c3 A4 c4 A5 c5,cs=[.int .i64 x.f0,.int .i64 x.f1,.int .i64 x.f2,.slice A3 x.f3.length c3,.slice A4 x.f4.length c4,.slice A5 x.f5.length c5]∧x.f3.length≤c3∧Kd.F (Kd.int .u8) W ok A3 x.f3.length x.f3∧x.f4.length≤c4∧Kd.F fH W ok A4 x.f4.length x.f4∧x.f5.length≤c5∧Kd.F ji W ok A5 x.f5.length x.f5:=by
  obtain⟨A3,c3,A4,c4,A5,c5,rfl,l3,_,l4,_,l5,_⟩:=oC (Kd.lP h);exact⟨A3,c3,A4,c4,A5,c5,rfl,l3,(fun W' hW=>by obtain⟨A3_,c3_,A4_,c4_,A5_,c5_,he,l3_,g3_,l4_,g4_,l5_,g5_⟩:=oC (h W' hW);injection (Option.some.inj (show some (Value.slice A3 x.f3.length c3)=some (Value.slice A3_ x.f3.length c3_)from congrArg (fun l=>l[3]?) he))with ha_ _ _;rw[ha_];exact g3_),l4,(fun W' hW=>by obtain⟨A3_,c3_,A4_,c4_,A5_,c5_,he,l3_,g3_,l4_,g4_,l5_,g5_⟩:=oC (h W' hW);injection (Option.some.inj (show some (Value.slice A4 x.f4.length c4)=some (Value.slice A4_ x.f4.length c4_)from congrArg (fun l=>l[4]?) he))with ha_ _ _;rw[ha_];exact g4_),l5,(fun W' hW=>by obtain⟨A3_,c3_,A4_,c4_,A5_,c5_,he,l3_,g3_,l4_,g4_,l5_,g5_⟩:=oC (h W' hW);injection (Option.some.inj (show some (Value.slice A5 x.f5.length c5)=some (Value.slice A5_ x.f5.length c5_)from congrArg (fun l=>l[5]?) he))with ha_ _ _;rw[ha_];exact g5_)⟩
theorem tN (W:World) (ok:Nat→Prop) (x:bf) {A3:Option Addr}{c3:Nat}(l3:x.f3.length≤c3) (g3:Kd.F (Kd.int .u8) W ok A3 x.f3.length x.f3) {A4:Option Addr}{c4:Nat}(l4:x.f4.length≤c4) (g4:Kd.F fH W ok A4 x.f4.length x.f4) {A5:Option Addr}{c5:Nat}(l5:x.f5.length≤c5) (g5:Kd.F ji W ok A5 x.f5.length x.f5):Kd.FK fK W ok x [.int .i64 x.f0,.int .i64 x.f1,.int .i64 x.f2,.slice A3 x.f3.length c3,.slice A4 x.f4.length c4,.slice A5 x.f5.length c5]:=fun W2 hW=>acX W2 x l3 (g3 W2 hW) l4 (g4 W2 hW) l5 (g5 W2 hW)
def af (xs:List bf) (i:Int):bf:=xs.getD i.toNat z58
theorem f_ {w:World}{A:Option Addr}{n:Nat}{xs:List bf}(h:Kd.C fK w A n xs) (i:Int) (h0:0≤i) (h1:i<n):∃ad A3 c3 A4 c4 A5 c5,A=some ad∧w.cell? (ad.add (i.toNat*6))=some (.int .i64 (af xs i).f0)∧w.cell? ⟨(ad.add (i.toNat*6)).block,(ad.add (i.toNat*6)).off+1,none⟩=some (.int .i64 (af xs i).f1)∧w.cell? ⟨(ad.add (i.toNat*6)).block,(ad.add (i.toNat*6)).off+2,none⟩=some (.int .i64 (af xs i).f2)∧w.cell? ⟨(ad.add (i.toNat*6)).block,(ad.add (i.toNat*6)).off+3,none⟩=some (.slice A3 (af xs i).f3.length c3)∧w.cell? ⟨(ad.add (i.toNat*6)).block,(ad.add (i.toNat*6)).off+4,none⟩=some (.slice A4 (af xs i).f4.length c4)∧w.cell? ⟨(ad.add (i.toNat*6)).block,(ad.add (i.toNat*6)).off+5,none⟩=some (.slice A5 (af xs i).f5.length c5)∧(af xs i).f3.length≤c3∧(Kd.int .u8).C w A3 (af xs i).f3.length (af xs i).f3∧(af xs i).f4.length≤c4∧fH.C w A4 (af xs i).f4.length (af xs i).f4∧(af xs i).f5.length≤c5∧ji.C w A5 (af xs i).f5.length (af xs i).f5:=by
  obtain⟨ad,c,e,_,hK,hc0⟩:=Kd.og h z58 i h0 h1;have hc:∀j u,c[j]? =some u→w.cell? (ad.add (i.toNat*6+j))=some u:=hc0;obtain⟨A3,c3,A4,c4,A5,c5,rfl,l3,g3,l4,g4,l5,g5⟩:=oC hK;exact⟨ad,A3,c3,A4,c4,A5,c5,e,hc 0 _ rfl,by rw[←gr _ _ 1 (by omega)];exact hc 1 _ rfl,by rw[←gr _ _ 2 (by omega)];exact hc 2 _ rfl,by rw[←gr _ _ 3 (by omega)];exact hc 3 _ rfl,by rw[←gr _ _ 4 (by omega)];exact hc 4 _ rfl,by rw[←gr _ _ 5 (by omega)];exact hc 5 _ rfl,l3,g3,l4,g4,l5,g5⟩
theorem fM {w W:World}{A:Option Addr}{n:Nat}{xs:List bf}(h:ae (Kd.C fK w A n xs)) (hb:ae (Below w.heap.size w W)) (i:Int) (h0:0≤i) (h1:i<n):∃ad A3 c3 A4 c4 A5 c5,A=some ad∧W.cell? (ad.add (i.toNat*6))=some (.int .i64 (af xs i).f0)∧W.cell? ⟨(ad.add (i.toNat*6)).block,(ad.add (i.toNat*6)).off+1,none⟩=some (.int .i64 (af xs i).f1)∧W.cell? ⟨(ad.add (i.toNat*6)).block,(ad.add (i.toNat*6)).off+2,none⟩=some (.int .i64 (af xs i).f2)∧W.cell? ⟨(ad.add (i.toNat*6)).block,(ad.add (i.toNat*6)).off+3,none⟩=some (.slice A3 (af xs i).f3.length c3)∧W.cell? ⟨(ad.add (i.toNat*6)).block,(ad.add (i.toNat*6)).off+4,none⟩=some (.slice A4 (af xs i).f4.length c4)∧W.cell? ⟨(ad.add (i.toNat*6)).block,(ad.add (i.toNat*6)).off+5,none⟩=some (.slice A5 (af xs i).f5.length c5)∧ae ((af xs i).f3.length≤c3)∧ae ((Kd.int .u8).C w A3 (af xs i).f3.length (af xs i).f3)∧ae ((af xs i).f4.length≤c4)∧ae (fH.C w A4 (af xs i).f4.length (af xs i).f4)∧ae ((af xs i).f5.length≤c5)∧ae (ji.C w A5 (af xs i).f5.length (af xs i).f5):=by
  obtain⟨ad,A3,c3,A4,c4,A5,c5,h0_,h1_,h2_,h3_,h4_,h5_,h6_,h7_,h8_,h9_,acU,acV,acW⟩:=f_ h.out i h0 h1;exact⟨ad,A3,c3,A4,c4,A5,c5,h0_,cB hb h1_,cB hb h2_,cB hb h3_,cB hb h4_,cB hb h5_,cB hb h6_,⟨h7_⟩,⟨h8_⟩,⟨h9_⟩,⟨acU⟩,⟨acV⟩,⟨acW⟩⟩

/-! #### struct type 24 -/
structure S24 where
  f0:(List nD)
  f1:Int
def k24:Kd S24:=Kd.iso (Kd.pair (Kd.slice 92 k92) (Kd.int .i64)) (fun x:S24=>(x.f0,x.f1))
theorem aaa {w:World}{x:S24}{cs:List Value}(h:k24.K w x cs):∃A0 c0,cs=[.slice A0 x.f0.length c0,.int .i64 x.f1]∧x.f0.length≤c0∧k92.C w A0 x.f0.length x.f0:=by
  obtain⟨_,_,rfl,⟨A0,c0,rfl,l0,g0⟩,rfl⟩:=h;exact⟨A0,c0,rfl,l0,g0⟩
end Go.Proofs.YtlecajlnjmbilaaGreatDoor.P
