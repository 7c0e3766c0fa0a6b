-- Printed walks.
import Derived.Laws.Cover1
import Derived.WalkSpells
import Derived.Test.YtlecajlnjmbilaaGreatDoorSh
import Derived.Sort.OwnSortedInts
import Derived.Lib.Overlaps
import Derived.Lib.AppendZerosOnto
import Derived.Laws.NewBlocks
import Derived.Shelf.RegionOpenPlain
import Derived.Test.YtlecajlnjmbilaaGreatDoorSh
import Derived.Test.YtlecajlnjmbilaaGreatDoorWFour
import Derived.Test.YtlecajlnjmbilaaGreatDoorWAt
import Derived.Test.YtlecajlnjmbilaaGreatDoorWEqStruct
import Derived.Test.YtlecajlnjmbilaaGreatDoorWRepsOne
import Derived.Test.YtlecajlnjmbilaaGreatDoorWInvWords
import Derived.Test.YtlecajlnjmbilaaGreatDoorWGuard
import Derived.Test.YtlecajlnjmbilaaGreatDoorWMore
set_option linter.all false
namespace Go.Proofs.YtlecajlnjmbilaaGreatDoor.P
open Go.RowKit Go.Proofs.ab.aq Go.Proofs.ab.aM Go.Proofs.ab.aT
attribute [local go_sem] gn gp iF iG fC fD gq gr

theorem oa {p:Prop} [Decidable p] (h:decide p=true:=by first|(with_reducible assumption)|assumption):p:=of_decide_eq_true h
theorem oD {p:Prop}(h:p:=by repeat(first|exact fv.refl _|apply fv.step)):p:=h
theorem oE {p:Prop}(h:p:=by first|rfl|(simp[eQ,eR]<;>rfl)|(simp[*,eQ,eR]<;>rfl)):p:=h
theorem oL {p:Prop}(h:p:=by(try simp only[List.map_toArray,List.map_cons,List.map_nil]);first|done|rfl|(simp only[List.length_drop,List.length_take];rfl)):p:=h
theorem oS {p:Prop}(h:p:=by first|rfl|(simp;done)|(simp[*];done)):p:=h
theorem bA {α β:Type}{x:Option α}{f:α→Option β}{r:β}(h:x.bind f=some r):∃a,ae (x=some a)∧f a=some r:=by
  obtain⟨a,h1,h2⟩:=Option.bind_eq_some_iff.mp h;exact⟨a,⟨h1⟩,h2⟩
theorem kN {α:Type}{b:Bool}{x y:Option α}{r:α}(h:(if b=true then x else y)=some r):(b=true∧x=some r)∨(b=false∧y=some r):=by
  cases b
  · exact .inr ⟨rfl,by simpa using h⟩
  · exact .inl ⟨rfl,by simpa using h⟩
theorem iM {α:Type}{p:Prop} [d:Decidable p] {x y:Option α}{r:α}(h:(if p then x else y)=some r):(decide p=true∧x=some r)∨(decide p=false∧y=some r):=by
  by_cases c:p
  · exact .inl ⟨decide_eq_true c,by rwa [if_pos c]at h⟩
  · exact .inr ⟨decide_eq_false c,by rwa [if_neg c]at h⟩
theorem yJ {α:Type}{a b:Int}{x y:Option α}{r:α}(h:(if a>b then x else y)=some r):(decide (b<a)=true∧x=some r)∨(decide (b<a)=false∧y=some r):=iM h
theorem itH {α:Type}{a b:Int}{x y:Option α}{r:α}(h:(if a≥b then x else y)=some r):(decide (b≤a)=true∧x=some r)∨(decide (b≤a)=false∧y=some r):=iM h
theorem bs_ {w W:World}{g j:Nat}{v:Value}(h:Below w.heap.size w W) (hg:ae (w.heap.size≤g)):Below w.heap.size w (W.setCell ⟨g,j,none⟩ v):=aD h hg.out
theorem oB {p:Prop}(h:p:=by repeat(first|(with_reducible first|exact HB.out|apply aX|apply aJ|apply au|refine bs_ ?_ (by with_reducible assumption))|exact HB.out)):p:=h
theorem oQ {p:Prop}(h:p:=by first|exact⟨rfl,_,World.drewN_drewN _ _ _⟩|exact⟨rfl,_,Eq.trans (World.drewN_drewN _ _ _) (congrArg (World.drewN _) (Nat.add_assoc _ _ _))⟩):p:=h
theorem cB {w W:World}{a:Addr}{v:Value}(hB:ae (Below w.heap.size w W)) (h:w.cell? a=some v):W.cell? a=some v:=(hB.out.cell (World.block_lt_of_cell? w _ h)).trans h
theorem oT {p:Prop} [Decidable p] (h:decide p=true:=by first|(with_reducible assumption)|assumption):p=True:=eq_true (of_decide_eq_true h)
theorem bc_ {w:World}{g i:Nat}{t:TypeId}{cs:Array Value}{v:Value}(h:ae (w.heap[g]? =some (.cells cs t (0,0)))) (e:cs[i]? =some v):w.cell? ⟨g,i,none⟩=some v:=(ao h.out i).trans e
theorem oH {p:Prop}(h:p:=by(repeat' (with_reducible refine And.intro ?_ ?_))<;>(first|exact cB HB (by with_reducible assumption)|(refine bc_ (by with_reducible assumption) ?_;rfl)|(refine bc_ (ae.mk (cp (ae.out (by with_reducible assumption)) _)) ?_;rfl))):p:=h
theorem ks_ {w W:World}{S:Nat→Prop}{g j:Nat}{v:Value}(h:Kept w W S) (hg:ae (w.heap.size≤g)):Kept w (W.setCell ⟨g,j,none⟩ v) S:=Kept.setCell h (.inr hg.out) v
theorem oK {w W:World}{S:Nat→Prop}(h:Kept w W S:=by repeat(first|(with_reducible first|exact HK.out|apply Kept.alloc|apply Kept.drewN|apply Kept.drew|refine ks_ ?_ (by with_reducible assumption))|exact HK.out)):Kept w W S:=h
theorem oF {g:Nat}{o:Obj}{w w1:World}(_:ae (w.heap[g]? =some o)) (hd:w1.heap[g]? =some o:=by(repeat(first|(with_reducible first|refine cp ?_ _|refine ar ?_|refine aG ?_ _)|refine ep ?_ (ae.out (by with_reducible assumption)) _));exact ae.out (by first|(with_reducible assumption)|assumption)):w1.heap[g]? =some o:=hd
theorem z1 {w:World}{g:Nat}{t:TypeId}{v0:Value}(h:ae (w.heap[g]? =some (.cells #[v0] t (0,0)))):w.cell? ⟨g,0,none⟩=some v0∧w.frozen? ⟨g,0,none⟩=false:=⟨(ao h.out 0).trans rfl,aC h.out 0⟩
theorem z2 {w:World}{g:Nat}{t:TypeId}{v0 v1:Value}(h:ae (w.heap[g]? =some (.cells #[v0,v1] t (0,0)))):(w.cell? ⟨g,0,none⟩=some v0∧w.cell? ⟨g,1,none⟩=some v1)∧w.frozen? ⟨g,0,none⟩=false∧w.frozen? ⟨g,1,none⟩=false:=⟨⟨(ao h.out 0).trans rfl,(ao h.out 1).trans rfl⟩,aC h.out 0,aC h.out 1⟩
theorem z3 {w:World}{g:Nat}{t:TypeId}{v0 v1 v2:Value}(h:ae (w.heap[g]? =some (.cells #[v0,v1,v2] t (0,0)))):(w.cell? ⟨g,0,none⟩=some v0∧w.cell? ⟨g,1,none⟩=some v1∧w.cell? ⟨g,2,none⟩=some v2)∧w.frozen? ⟨g,0,none⟩=false∧w.frozen? ⟨g,1,none⟩=false∧w.frozen? ⟨g,2,none⟩=false:=⟨⟨(ao h.out 0).trans rfl,(ao h.out 1).trans rfl,(ao h.out 2).trans rfl⟩,aC h.out 0,aC h.out 1,aC h.out 2⟩
theorem z4 {w:World}{g:Nat}{t:TypeId}{v0 v1 v2 v3:Value}(h:ae (w.heap[g]? =some (.cells #[v0,v1,v2,v3] t (0,0)))):(w.cell? ⟨g,0,none⟩=some v0∧w.cell? ⟨g,1,none⟩=some v1∧w.cell? ⟨g,2,none⟩=some v2∧w.cell? ⟨g,3,none⟩=some v3)∧w.frozen? ⟨g,0,none⟩=false∧w.frozen? ⟨g,1,none⟩=false∧w.frozen? ⟨g,2,none⟩=false∧w.frozen? ⟨g,3,none⟩=false:=⟨⟨(ao h.out 0).trans rfl,(ao h.out 1).trans rfl,(ao h.out 2).trans rfl,(ao h.out 3).trans rfl⟩,aC h.out 0,aC h.out 1,aC h.out 2,aC h.out 3⟩
theorem z5 {w:World}{g:Nat}{t:TypeId}{v0 v1 v2 v3 v4:Value}(h:ae (w.heap[g]? =some (.cells #[v0,v1,v2,v3,v4] t (0,0)))):(w.cell? ⟨g,0,none⟩=some v0∧w.cell? ⟨g,1,none⟩=some v1∧w.cell? ⟨g,2,none⟩=some v2∧w.cell? ⟨g,3,none⟩=some v3∧w.cell? ⟨g,4,none⟩=some v4)∧w.frozen? ⟨g,0,none⟩=false∧w.frozen? ⟨g,1,none⟩=false∧w.frozen? ⟨g,2,none⟩=false∧w.frozen? ⟨g,3,none⟩=false∧w.frozen? ⟨g,4,none⟩=false:=⟨⟨(ao h.out 0).trans rfl,(ao h.out 1).trans rfl,(ao h.out 2).trans rfl,(ao h.out 3).trans rfl,(ao h.out 4).trans rfl⟩,aC h.out 0,aC h.out 1,aC h.out 2,aC h.out 3,aC h.out 4⟩
theorem z6 {w:World}{g:Nat}{t:TypeId}{v0 v1 v2 v3 v4 v5:Value}(h:ae (w.heap[g]? =some (.cells #[v0,v1,v2,v3,v4,v5] t (0,0)))):(w.cell? ⟨g,0,none⟩=some v0∧w.cell? ⟨g,1,none⟩=some v1∧w.cell? ⟨g,2,none⟩=some v2∧w.cell? ⟨g,3,none⟩=some v3∧w.cell? ⟨g,4,none⟩=some v4∧w.cell? ⟨g,5,none⟩=some v5)∧w.frozen? ⟨g,0,none⟩=false∧w.frozen? ⟨g,1,none⟩=false∧w.frozen? ⟨g,2,none⟩=false∧w.frozen? ⟨g,3,none⟩=false∧w.frozen? ⟨g,4,none⟩=false∧w.frozen? ⟨g,5,none⟩=false:=⟨⟨(ao h.out 0).trans rfl,(ao h.out 1).trans rfl,(ao h.out 2).trans rfl,(ao h.out 3).trans rfl,(ao h.out 4).trans rfl,(ao h.out 5).trans rfl⟩,aC h.out 0,aC h.out 1,aC h.out 2,aC h.out 3,aC h.out 4,aC h.out 5⟩
theorem aQ {g:Nat}{o:Obj}{w w1 w2:World}(_:ae (w.heap[g]? =some o)) (hb:Below w1.heap.size w1 w2) (hd:w1.heap[g]? =some o:=by(repeat(first|(with_reducible first|refine cp ?_ _|refine ar ?_|refine aG ?_ _)|refine ep ?_ (ae.out (by with_reducible assumption)) _));exact ae.out (by first|(with_reducible assumption)|assumption)):ae (w2.heap[g]? =some o):=⟨fE hd hb⟩
theorem eY {g g':Nat}{o:Obj}{w w1:World}(hg:g'=w1.heap.size) (_:ae (w.heap[g]? =some o)) (hd:w1.heap[g]? =some o:=by(repeat(first|(with_reducible first|refine cp ?_ _|refine ar ?_|refine aG ?_ _)|refine ep ?_ (ae.out (by with_reducible assumption)) _));exact ae.out (by first|(with_reducible assumption)|assumption)):ae (g≠g'):=⟨by rw[hg];exact Nat.ne_of_lt (ie hd)⟩
theorem eZ {g g':Nat}{o:Obj}{w w1:World}(hg:g'=w1.heap.size) (_:ae (w.heap[g]? =some o)) (hd:w1.heap[g]? =some o:=by(repeat(first|(with_reducible first|refine cp ?_ _|refine ar ?_|refine aG ?_ _)|refine ep ?_ (ae.out (by with_reducible assumption)) _));exact ae.out (by first|(with_reducible assumption)|assumption)):ae (g'≠g):=⟨by rw[hg];exact Nat.ne_of_gt (ie hd)⟩
theorem eg {g:Nat}{w W:World}(hg:g=W.heap.size) (h:Below w.heap.size w W:=by repeat(first|(with_reducible first|exact HB.out|apply aX|apply aJ|apply au|refine bs_ ?_ (by with_reducible assumption))|exact HB.out)):ae (w.heap.size≤g):=⟨by rw[hg];exact ah h⟩
section
variable {P:Program}{ops:Array Oper}{Q:Exit→Act→World→Prop}{rest:List Oper}{oi:Oper}{a:Act}{w:World}
theorem fe (N:Tmp) {f:FuncId}{fn:Func}(hf:P.funcs[f]? =some fn) {args:Array Value}{R:Ending→World→Prop}{aa:Array Operand}{ts:Array TypeId}(h:Calls P f args w R) (hn:∀e w',R e w'→∃v,e= .returned v∧wpList P ops Q rest (a.put (some N) v) w')
    (hop:oi.op= .call {callee:= .value (.func f),args:=aa,argTypes:=ts}:=by exact rfl) (hargs:aa.map a.eval=args:=by(try simp only[List.map_toArray,List.map_cons,List.map_nil]);first|done|rfl|(simp only[List.length_drop,List.length_take];rfl)) (hd:oi.dst=some N:=by exact rfl) (hg:oi.guard=none:=by exact rfl) (hname:(fn.name== "runtime.NumGoroutine")=false:=by kernel_rfl) (hb:fn.body.isSome=true:=by exact rfl):wpList P ops Q (oi::rest) a w:=
  tg (some N) hd hg hf hname hb args hop hargs (h.mono hn)
theorem eh {W:World}(N:Tmp) (cs:Array Value) (t:TypeId)
    (h:∀g,g=W.heap.size→∀w1,w1.heap[g]? =some (.cells cs t (0,0))→Below W.heap.size W w1→wpList P ops Q rest (a.put oi.dst (.pointer (some ⟨g,0,none⟩))) w1) (hgd:oi.guard=none:=by exact rfl) (hd:oi.dst=some N:=by exact rfl)
    (hrun:(execOp a.eval oi).run P W= .ok (.value (.pointer (some ⟨W.heap.size,0,none⟩))) (W.alloc (.cells cs t (0,0))):=by first|(go_simp;done)|(go_simp;rfl)):wpList P ops Q (oi::rest) a W:=sE hgd hd hrun h
end
section
variable {α:Type}{d:Kd α}{e base n:Nat}{ok okv:Nat→Prop}{w w1 w2:World}{A:Option Addr}{c:Nat}{u v:Value}{xs:List α}
theorem ke_ {β:Type}{d':Kd β}{e':Nat}{ys:List β}(_:ae (d.R e w base ok u xs)) (ho:d'.R e' w2 w1.heap.size okv v ys) (hb:Below w1.heap.size w1 w2) (hd:d.R e w1 base ok u xs:=by(with_reducible repeat(first|apply Kd.ca|apply Kd.cd|apply Kd.cj));exact ae.out (by first|(with_reducible assumption)|assumption)):ae (d.R e w2 base (fun k=>ok k∧some k≠v.ownBlock) u xs):=⟨Kd.qZ hd (Kd.cQ ho) hb⟩
theorem ga (_:ae (d.R e w base ok u xs)) (hb:Below w1.heap.size w1 w2) (hd:d.R e w1 base ok u xs:=by(with_reducible repeat(first|apply Kd.ca|apply Kd.cd|apply Kd.cj));exact ae.out (by first|(with_reducible assumption)|assumption)):ae (d.R e w2 base ok u xs):=⟨Kd.iX hd hb⟩
theorem nK (_:ae (d.R e w base ok u xs)) (hd:d.R e w1 base ok u xs:=by(with_reducible repeat(first|apply Kd.ca|apply Kd.cd|apply Kd.cj));exact ae.out (by first|(with_reducible assumption)|assumption)):∀k,u.ownBlock=some k→k<w1.heap.size:=Kd.xz hd
theorem oR (_:ae (d.R e w base ok u xs)) (hd:d.R e w1 base ok u xs:=by(with_reducible repeat(first|apply Kd.ca|apply Kd.cd|apply Kd.cj));exact ae.out (by first|(with_reducible assumption)|assumption)):d.R e w1 base ok u xs:=hd
theorem kC (h:ae (Kd.C d w A n xs)) (hb:Below w.heap.size w w1:=by repeat(first|(with_reducible first|exact HB.out|apply aX|apply aJ|apply au|refine bs_ ?_ (by with_reducible assumption))|exact HB.out)):Kd.C d w1 A n xs:=Kd.de h.out hb
theorem kO (_:ae (d.R e w base ok (.slice A n c) xs)) (hd:d.R e w1 base ok (.slice A n c) xs:=by(with_reducible repeat(first|apply Kd.ca|apply Kd.cd|apply Kd.cj));exact ae.out (by first|(with_reducible assumption)|assumption)):Kd.C d w1 A xs.length xs:=(Kd.aH hd).2.2
theorem ko (h:ae (d.R e w base ok (.slice A n c) xs)):n≤c:=(Kd.aH h.out).2.1
end
section
variable {P:Program}{ops:Array Oper}{Q:Exit→Act→World→Prop}{md:Region.Mode}{S:World→Prop}{ds:List Nat}{T:Bool×List (List Nat×List Nat)}{B:List Nat}
def lb (n m:Nat):Array Bool:=((List.range n).map fun i=>m.testBit i).toArray
theorem mb {id:Nat}{a:Act}{w:World}{T:Bool×List (List Nat×List Nat)}{B:List Nat}(n:Nat) (S:World→Prop) (hT:g_ .any ops=T) (hB:eX T.2 B=true) (hS:S w.drew)
    (h:S w.drew→ae (g_ .any ops=T)→ae (eX T.2 B=true)→bq P .any ops Q S [] n (lb n 0) a w.drew) (hm:P.follows .mixedOrders=true:=by kernel_rfl) (hn:ops.size=n:=by exact rfl) (hl:Array.replicate n false=lb n 0:=by exact rfl):(Code.region id ops true).wp P Q a w:=
  q_ (lb n 0) hm hn hl hS (fun hh=>h hh ⟨hT⟩ ⟨hB⟩)
theorem bx {n m:Nat}(i:Nat) (N:Tmp) {oi:Oper}{v:Value}{fuel:Nat}{a a':Act}{w:World}(HT:ae (g_ md ops=T)) (h:bq P md ops Q S ds fuel (lb n (m|||1<<<i)) a' w) (hi:ops[i]? =some oi:=by exact rfl) (hN:oi.dst=some N:=by exact rfl)
    (hc:abX T (lb n m).toList (lb n (m|||1<<<i)).toList i=true:=by kernel_rfl) (hQ:∀c a w,Q (.panic c) (a.put oi.dst v) w→Q (.panic c) a w:=by exact fun _ _ _ h=>h) (hg:Region.wanted oi (yielded ops a.tmps)=true:=by exact rfl) (hy:∀w,(execOp a.eval oi).run P w= .ok (.value v) w:=by intro w';go_simp;with_reducible rfl)
    (ha:a.put (some N) v=a':=by simp only[Act.put,List.setIfInBounds_toArray,List.set_cons_zero,List.set_cons_succ,kR,oU];rfl):bq P md ops Q S ds (fuel+1) (lb n m) a w:=aaf _ hi hN (aag HT.out hc) hQ (.inl ⟨hg,hy⟩) ha h
theorem fO {n m:Nat}(i:Nat) (N:Tmp) {oi:Oper}{v:Value}{fuel:Nat}{a a':Act}{w:World}(HT:ae (g_ md ops=T)) (HW:ae (eX T.2 B=true)) (hS:S w) (h:bq P md ops Q S ds fuel (lb n (m|||1<<<i)) a' w) (hi:ops[i]? =some oi:=by exact rfl) (hN:oi.dst=some N:=by exact rfl)
    (hc:aah T B ds (lb n m).toList (lb n (m|||1<<<i)).toList i=true:=by kernel_rfl) (hQ:∀c a w,Q (.panic c) (a.put oi.dst v) w→Q (.panic c) a w:=by exact fun _ _ _ h=>h) (hg:Region.wanted oi (yielded ops a.tmps)=true:=by exact rfl)
    (hy:∀w,S w→(execOp a.eval oi).run P w= .ok (.value v) w:=by intro w' xA;(try dsimp only at xA);(repeat(have s_:=And.left xA;replace xA:=And.right xA));go_simp;with_reducible rfl)
    (ha:a.put (some N) v=a':=by simp only[Act.put,List.setIfInBounds_toArray,List.set_cons_zero,List.set_cons_succ,kR,oU];rfl):bq P md ops Q S ds (fuel+1) (lb n m) a w:=aai _ hi hN (aaj HT.out HW.out hc) hQ (.inl ⟨hg,hy⟩) hS ha h
theorem kQ {n m:Nat}(i:Nat) (N:Tmp) {oi:Oper}{fuel:Nat}{a:Act}{w:World}(HT:ae (g_ md ops=T))
    (h:∀K:Act→World→Prop,Shut (∀a' w',S w'→(S w'→bq P md ops Q S ds fuel (lb n (m|||1<<<i)) a' w')→K a' w')→if Region.wanted oi (yielded ops a.tmps)=true then Oper.wp P oi a w K Q else K (a.put (some N) undef) w)
    (hi:ops[i]? =some oi:=by exact rfl) (hN:oi.dst=some N:=by exact rfl) (hc:(nO T.2 (lb n m).toList==[i]&&(lb n m).toList.set i true==(lb n (m|||1<<<i)).toList)=true:=by kernel_rfl) (hd:i∉ds:=by decide):bq P md ops Q S ds (fuel+1) (lb n m) a w:=
  acY _ hi hN (th HT.out hc) hd h
theorem lZ {n m:Nat}{fuel:Nat}{a:Act}{w:World}(HT:ae (g_ md ops=T)) (h:Q .normal a w) (hr:(nO T.2 (lb n m).toList==[])=true:=by kernel_rfl):bq P md ops Q S ds fuel (lb n m) a w:=ra (abY HT.out hr) h
theorem l_ (N:Tmp) {oi:Oper}{a:Act}{w:World}{K:Act→World→Prop}{f:FuncId}{fn:Func}(hf:P.funcs[f]? =some fn) {args:Array Value}{R:Ending→World→Prop}{aa:Array Operand}{ts:Array TypeId}(h:Calls P f args w R)
    (hn:∀e w',R e w'→∃v,e= .returned v∧K (a.put (some N) v) w') (hop:oi.op= .call {callee:= .value (.func f),args:=aa,argTypes:=ts}:=by exact rfl) (hargs:aa.map a.eval=args:=by(try simp only[List.map_toArray,List.map_cons,List.map_nil]);first|done|rfl|(simp only[List.length_drop,List.length_take];rfl)) (hw:Region.wanted oi (yielded ops a.tmps)=true:=by exact rfl) (hd:oi.dst=some N:=by exact rfl)
    (hname:(fn.name== "runtime.NumGoroutine")=false:=by kernel_rfl) (hb:fn.body.isSome=true:=by exact rfl):
    if Region.wanted oi (yielded ops a.tmps)=true then Oper.wp P oi a w K Q else K (a.put (some N) undef) w:=ur hf hname hb args hw hd hop hargs (h.mono hn)
theorem eP {K W:Act→World→Prop}{S:World→Prop}(hK:Shut (∀a w,S w→(S w→W a w)→K a w)) (N:Tmp) {a a':Act}{v:Value}{w:World}(hS:S w) (h:S w→W a' w) (ha:a.put (some N) v=a':=by simp only[Act.put,List.setIfInBounds_toArray,List.set_cons_zero,List.set_cons_succ,kR,oU];rfl):K (a.put (some N) v) w:=by
  rw[ha];exact hK.out _ _ hS h
end

theorem oP {g:Nat}{cs cs':Array Value}{t:TypeId}{w w1:World}(_:ae (w.heap[g]? =some (.cells cs t (0,0)))) (hd:w1.heap[g]? =some (.cells cs' t (0,0)):=by(repeat(first|(with_reducible first|refine cp ?_ _|refine ar ?_|refine aG ?_ _)|(apply ep;rotate_left;exact ae.out (by with_reducible assumption);rotate_right)|apply iH));(first|exact ae.out (by with_reducible assumption)|exact ae.out (by assumption));(all_goals exact rfl)):w1.heap[g]? =some (.cells cs' t (0,0)):=hd
theorem oo {g:Nat}{cs:Array Value}{t:TypeId}{w w1 w2:World}(cs':Array Value) (_:ae (w.heap[g]? =some (.cells cs t (0,0)))) (hb:Below w1.heap.size w1 w2) (hd:w1.heap[g]? =some (.cells cs' t (0,0)):=by(repeat(first|(with_reducible first|refine cp ?_ _|refine ar ?_|refine aG ?_ _)|(apply ep;rotate_left;exact ae.out (by with_reducible assumption);rotate_right)|apply iH));(first|exact ae.out (by with_reducible assumption)|exact ae.out (by assumption));(all_goals exact rfl)):ae (w2.heap[g]? =some (.cells cs' t (0,0))):=⟨fE hd hb⟩
theorem w_ {g:Nat}{o:Obj}{w w1 w2:World}(hW:w1=w2) (_:ae (w.heap[g]? =some o)) (hd:w1.heap[g]? =some o:=by(repeat(first|(with_reducible first|refine cp ?_ _|refine ar ?_|refine aG ?_ _)|refine ep ?_ (ae.out (by with_reducible assumption)) _));exact ae.out (by first|(with_reducible assumption)|assumption)):ae (w2.heap[g]? =some o):=⟨hW▸hd⟩
theorem xa {g:Nat}{cs:Array Value}{t:TypeId}{w w1 w2:World}(cs':Array Value) (hW:w1=w2) (_:ae (w.heap[g]? =some (.cells cs t (0,0)))) (hd:w1.heap[g]? =some (.cells cs' t (0,0)):=by(repeat(first|(with_reducible first|refine cp ?_ _|refine ar ?_|refine aG ?_ _)|(apply ep;rotate_left;exact ae.out (by with_reducible assumption);rotate_right)|apply iH));(first|exact ae.out (by with_reducible assumption)|exact ae.out (by assumption));(all_goals exact rfl)):ae (w2.heap[g]? =some (.cells cs' t (0,0))):=⟨hW▸hd⟩
theorem xb {w w0 w1 w2:World}(hW:w1=w2) (_:ae (Below w.heap.size w w0)) (hd:Below w.heap.size w w1:=by repeat(first|(with_reducible first|exact HB.out|apply aX|apply aJ|apply au|refine bs_ ?_ (by with_reducible assumption))|exact HB.out)):ae (Below w.heap.size w w2):=⟨hW▸hd⟩
section
variable {P:Program}{ops:Array Oper}{Q:Exit→Act→World→Prop}{md:Region.Mode}{S:World→Prop}{ds:List Nat}{T:Bool×List (List Nat×List Nat)}{B:List Nat}
theorem fF {n m:Nat}(i:Nat) (N:Tmp) {oi:Oper}{fuel:Nat}{a a':Act}{w:World}(HT:ae (g_ md ops=T)) (h:bq P md ops Q S ds fuel (lb n (m|||1<<<i)) a' w) (hi:ops[i]? =some oi:=by exact rfl) (hN:oi.dst=some N:=by exact rfl)
    (hc:abX T (lb n m).toList (lb n (m|||1<<<i)).toList i=true:=by kernel_rfl) (hQ:∀c a w,Q (.panic c) (a.put oi.dst undef) w→Q (.panic c) a w:=by exact fun _ _ _ h=>h) (hg:Region.wanted oi (yielded ops a.tmps)=false:=by exact rfl)
    (ha:a.put (some N) undef=a':=by simp only[Act.put,List.setIfInBounds_toArray,List.set_cons_zero,List.set_cons_succ,kR,oU];rfl):bq P md ops Q S ds (fuel+1) (lb n m) a w:=aaf _ hi hN (aag HT.out hc) hQ (.inr ⟨hg,rfl⟩) ha h
theorem uu {n m:Nat}(i:Nat) (N:Tmp) {oi:Oper}{v:Value}{fuel:Nat}{a a':Act}{w:World}(h:bq P md ops Q S ds fuel (lb n (m|||1<<<i)) a' w) (hi:ops[i]? =some oi:=by exact rfl) (hN:oi.dst=some N:=by exact rfl)
    (hc:aak md ops (lb n m) (lb n (m|||1<<<i)) i=true:=by kernel_rfl) (hQ:∀c a w,Q (.panic c) (a.put oi.dst v) w→Q (.panic c) a w:=by exact fun _ _ _ h=>h) (hg:Region.wanted oi (yielded ops a.tmps)=true:=by exact rfl) (hy:∀w,(execOp a.eval oi).run P w= .ok (.value v) w:=by intro w';go_simp;with_reducible rfl)
    (ha:a.put (some N) v=a':=by simp only[Act.put,List.setIfInBounds_toArray,List.set_cons_zero,List.set_cons_succ,kR,oU];rfl):bq P md ops Q S ds (fuel+1) (lb n m) a w:=aaf _ hi hN hc hQ (.inl ⟨hg,hy⟩) ha h
theorem vI {n m:Nat}(i:Nat) (N:Tmp) {oi:Oper}{v:Value}{fuel:Nat}{a a':Act}{w:World}(hS:S w) (h:bq P md ops Q S ds fuel (lb n (m|||1<<<i)) a' w) (hi:ops[i]? =some oi:=by exact rfl) (hN:oi.dst=some N:=by exact rfl)
    (hc:takeB md ops ds (lb n m) (lb n (m|||1<<<i)) i=true:=by kernel_rfl) (hQ:∀c a w,Q (.panic c) (a.put oi.dst v) w→Q (.panic c) a w:=by exact fun _ _ _ h=>h) (hg:Region.wanted oi (yielded ops a.tmps)=true:=by exact rfl)
    (hy:∀w,S w→(execOp a.eval oi).run P w= .ok (.value v) w:=by intro w' xA;(try dsimp only at xA);(repeat(have s_:=And.left xA;replace xA:=And.right xA));go_simp;with_reducible rfl)
    (ha:a.put (some N) v=a':=by simp only[Act.put,List.setIfInBounds_toArray,List.set_cons_zero,List.set_cons_succ,kR,oU];rfl):bq P md ops Q S ds (fuel+1) (lb n m) a w:=aai _ hi hN hc hQ (.inl ⟨hg,hy⟩) hS ha h
theorem o0_ {n m:Nat}(i:Nat) (N:Tmp) {oi:Oper}{fuel:Nat}{a:Act}{w:World}
    (h:∀K:Act→World→Prop,Shut (∀a' w',S w'→(S w'→bq P md ops Q S ds fuel (lb n (m|||1<<<i)) a' w')→K a' w')→if Region.wanted oi (yielded ops a.tmps)=true then Oper.wp P oi a w K Q else K (a.put (some N) undef) w)
    (hi:ops[i]? =some oi:=by exact rfl) (hN:oi.dst=some N:=by exact rfl) (hc:pk md ops (lb n m) (lb n (m|||1<<<i)) i=true:=by kernel_rfl) (hd:i∉ds:=by decide):bq P md ops Q S ds (fuel+1) (lb n m) a w:=acY _ hi hN hc hd h
theorem s0_ {id:Nat}{a:Act}{w:World}(n:Nat) (S:World→Prop) (hS:S w.drew) (h:S w.drew→bq P .any ops Q S [] n (lb n 0) a w.drew) (hm:P.follows .mixedOrders=true:=by kernel_rfl) (hn:ops.size=n:=by exact rfl) (hl:Array.replicate n false=lb n 0:=by exact rfl):(Code.region id ops true).wp P Q a w:=
  q_ (lb n 0) hm hn hl hS h
end

section
variable {α:Type}{d:Kd α}{e base n g t g2 t2:Nat}{ok:Nat→Prop}{cs cs2:Array Value}{w w1 w2:World}{A:Option Addr}{c:Nat}{u v:Value}{xs:List α}
theorem vJ {j:Nat}(h:Kd.R d e w base (fun k=>ok k∧k≠g) u xs):Kd.R d e (w.setCell ⟨g,j,none⟩ v) base (fun k=>ok k∧k≠g) u xs:=Kd.kE h (fun _ hk=>hk.2) v
theorem aep {j:Nat}(h:Kd.R d e w base (fun k=>(ok k∧k≠g)∧k≠g2) u xs):Kd.R d e (w.setCell ⟨g2,j,none⟩ v) base (fun k=>(ok k∧k≠g)∧k≠g2) u xs:=Kd.kE h (fun _ hk=>hk.2) v
theorem aeq {j:Nat}(h:Kd.R d e w base (fun k=>(ok k∧k≠g)∧k≠g2) u xs):Kd.R d e (w.setCell ⟨g,j,none⟩ v) base (fun k=>(ok k∧k≠g)∧k≠g2) u xs:=Kd.kE h (fun _ hk=>hk.1.2) v
theorem vK (h:ae (Kd.R d e w base ok u xs)) (hd:Kd.R d e w base ok u xs→Kd.R d e w1 base ok u xs:=by intro h_;(repeat(first|(with_reducible first|exact h_|apply Kd.ca|apply Kd.cd|apply Kd.cj)))):Kd.R d e w1 base ok u xs:=(hd h.out)
theorem nw (h:ae (Kd.R d e w base ok u xs)) (hb:Below w1.heap.size w1 w2) (hd:Kd.R d e w base ok u xs→Kd.R d e w1 base ok u xs:=by intro h_;(repeat(first|(with_reducible first|exact h_|apply Kd.ca|apply Kd.cd|apply Kd.cj)))):ae (Kd.R d e w2 base ok u xs):=⟨Kd.iX (hd h.out) hb⟩
theorem nR1 (h:ae (Kd.R d e w base ok u xs)) (b:ae (w.heap[g]? =some (.cells cs t (0,0)))) (ht:∀q,q∈e::d.E→q≠t:=by decide) (hd:Kd.R d e w base (fun k=>ok k∧k≠g) u xs→Kd.R d e w1 base (fun k=>ok k∧k≠g) u xs:=by intro h_;(repeat(first|(with_reducible first|exact h_|apply Kd.ca|apply Kd.cd|apply Kd.cj)|apply vJ))):Kd.R d e w1 base ok u xs:=(Kd.bn (hd (Kd.bf h.out b.out ht)) (fun _ h_=>h_.1))
theorem kc (h:ae (Kd.R d e w base ok u xs)) (b:ae (w.heap[g]? =some (.cells cs t (0,0)))) (ht:∀q,q∈e::d.E→q≠t:=by decide) (hd:Kd.R d e w base (fun k=>ok k∧k≠g) u xs→Kd.R d e w1 base (fun k=>ok k∧k≠g) u xs:=by intro h_;(repeat(first|(with_reducible first|exact h_|apply Kd.ca|apply Kd.cd|apply Kd.cj)|apply vJ))):∀k,u.ownBlock=some k→k<w1.heap.size:=Kd.xz (Kd.bn (hd (Kd.bf h.out b.out ht)) (fun _ h_=>h_.1))
theorem fq (h:ae (Kd.R d e w base ok u xs)) (b:ae (w.heap[g]? =some (.cells cs t (0,0)))) (hb:Below w1.heap.size w1 w2) (ht:∀q,q∈e::d.E→q≠t:=by decide) (hd:Kd.R d e w base (fun k=>ok k∧k≠g) u xs→Kd.R d e w1 base (fun k=>ok k∧k≠g) u xs:=by intro h_;(repeat(first|(with_reducible first|exact h_|apply Kd.ca|apply Kd.cd|apply Kd.cj)|apply vJ))):ae (Kd.R d e w2 base ok u xs):=⟨Kd.iX (Kd.bn (hd (Kd.bf h.out b.out ht)) (fun _ h_=>h_.1)) hb⟩
theorem aer (h:ae (Kd.R d e w base ok u xs)) (b:ae (w.heap[g]? =some (.cells cs t (0,0)))) (hv:∀k,v.ownBlock=some k→w1.heap.size≤k) (hb:Below w1.heap.size w1 w2) (ht:∀q,q∈e::d.E→q≠t:=by decide) (hd:Kd.R d e w base (fun k=>ok k∧k≠g) u xs→Kd.R d e w1 base (fun k=>ok k∧k≠g) u xs:=by intro h_;(repeat(first|(with_reducible first|exact h_|apply Kd.ca|apply Kd.cd|apply Kd.cj)|apply vJ))):ae (Kd.R d e w2 base (fun k=>ok k∧some k≠v.ownBlock) u xs):=⟨Kd.qZ (Kd.bn (hd (Kd.bf h.out b.out ht)) (fun _ h_=>h_.1)) hv hb⟩
theorem jw (h:ae (Kd.R d e w base ok (.slice A n c) xs)) (b:ae (w.heap[g]? =some (.cells cs t (0,0)))) (ht:∀q,q∈e::d.E→q≠t:=by decide) (hd:Kd.R d e w base (fun k=>ok k∧k≠g) (.slice A n c) xs→Kd.R d e w1 base (fun k=>ok k∧k≠g) (.slice A n c) xs:=by intro h_;(repeat(first|(with_reducible first|exact h_|apply Kd.ca|apply Kd.cd|apply Kd.cj)|apply vJ))):Kd.C d w1 A xs.length xs:=(Kd.aH (Kd.bn (hd (Kd.bf h.out b.out ht)) (fun _ h_=>h_.1))).2.2
theorem nR2 (h:ae (Kd.R d e w base ok u xs)) (g:Nat) (hm:∀k,ok k→k≠g) (hd:Kd.R d e w base (fun k=>ok k∧k≠g) u xs→Kd.R d e w1 base (fun k=>ok k∧k≠g) u xs:=by intro h_;(repeat(first|(with_reducible first|exact h_|apply Kd.ca|apply Kd.cd|apply Kd.cj)|apply vJ))):Kd.R d e w1 base ok u xs:=(Kd.bn (hd (Kd.bn h.out (fun _ hk=>⟨hk,hm _ hk⟩))) (fun _ h_=>h_.1))
theorem aal {j:Nat}(h:Kd.S d e w base (fun k=>ok k∧k≠g) u xs):Kd.S d e (w.setCell ⟨g,j,none⟩ v) base (fun k=>ok k∧k≠g) u xs:=Kd.eS h (fun _ hk=>hk.2) v
theorem nS0 (h:ae (Kd.S d e w base ok u xs)) (hd:Kd.S d e w base ok u xs→Kd.S d e w1 base ok u xs:=by intro h_;(repeat(first|(with_reducible first|exact h_|apply Kd.cV|apply Kd.cW|apply Kd.ei)))):Kd.S d e w1 base ok u xs:=(hd h.out)
theorem xB (h:ae (Kd.S d e w base ok u xs)) (hd:Kd.S d e w base ok u xs→Kd.S d e w1 base ok u xs:=by intro h_;(repeat(first|(with_reducible first|exact h_|apply Kd.cV|apply Kd.cW|apply Kd.ei)))):∀k,u.ownBlock=some k→k<w1.heap.size:=Kd.adN (hd h.out)
theorem ti (h:ae (Kd.S d e w base ok u xs)) (hb:Below w1.heap.size w1 w2) (hd:Kd.S d e w base ok u xs→Kd.S d e w1 base ok u xs:=by intro h_;(repeat(first|(with_reducible first|exact h_|apply Kd.cV|apply Kd.cW|apply Kd.ei)))):ae (Kd.S d e w2 base ok u xs):=⟨Kd.iY (hd h.out) hb⟩
theorem xC (h:ae (Kd.S d e w base ok u xs)) (hv:∀k,v.ownBlock=some k→w1.heap.size≤k) (hb:Below w1.heap.size w1 w2) (hd:Kd.S d e w base ok u xs→Kd.S d e w1 base ok u xs:=by intro h_;(repeat(first|(with_reducible first|exact h_|apply Kd.cV|apply Kd.cW|apply Kd.ei)))):ae (Kd.S d e w2 base (fun k=>ok k∧some k≠v.ownBlock) u xs):=⟨Kd.uv (hd h.out) hv hb⟩
theorem tj (h:ae (Kd.S d e w base ok u xs)) (hb:Below w1.heap.size w1 w2) (hd:Kd.S d e w base ok u xs→Kd.S d e w1 base ok u xs:=by intro h_;(repeat(first|(with_reducible first|exact h_|apply Kd.cV|apply Kd.cW|apply Kd.ei)))):Kd.S d e w2 base (fun k=>ok k∧k<w1.heap.size) u xs:=Kd.adO (hd h.out) hb
theorem mu (h:ae (Kd.S d e w base ok (.slice A n c) xs)) (hd:Kd.S d e w base ok (.slice A n c) xs→Kd.S d e w1 base ok (.slice A n c) xs:=by intro h_;(repeat(first|(with_reducible first|exact h_|apply Kd.cV|apply Kd.cW|apply Kd.ei)))):Kd.C d w1 A xs.length xs:=(Kd.kr (hd h.out)).2.2
theorem xD (h:ae (Kd.S d e w base ok u xs)) (b:ae (w.heap[g]? =some (.cells cs t (0,0)))) (hb:Below w1.heap.size w1 w2) (ht:∀q,q∈e::d.E→q≠t:=by decide) (hd:Kd.S d e w base (fun k=>ok k∧k≠g) u xs→Kd.S d e w1 base (fun k=>ok k∧k≠g) u xs:=by intro h_;(repeat(first|(with_reducible first|exact h_|apply Kd.cV|apply Kd.cW|apply Kd.ei)|apply aal))):ae (Kd.S d e w2 base ok u xs):=⟨Kd.iY (Kd.cS (hd (Kd.je h.out b.out ht)) (fun _ h_=>h_.1)) hb⟩
theorem xE (h:ae (Kd.S d e w base ok u xs)) (g:Nat) (hm:∀k,ok k→k≠g) (hd:Kd.S d e w base (fun k=>ok k∧k≠g) u xs→Kd.S d e w1 base (fun k=>ok k∧k≠g) u xs:=by intro h_;(repeat(first|(with_reducible first|exact h_|apply Kd.cV|apply Kd.cW|apply Kd.ei)|apply aal))):∀k,u.ownBlock=some k→k<w1.heap.size:=Kd.adN (Kd.cS (hd (Kd.cS h.out (fun _ hk=>⟨hk,hm _ hk⟩))) (fun _ h_=>h_.1))
theorem acZ (h:ae (Kd.S d e w base ok u xs)) (g:Nat) (hm:∀k,ok k→k≠g) (hb:Below w1.heap.size w1 w2) (hd:Kd.S d e w base (fun k=>ok k∧k≠g) u xs→Kd.S d e w1 base (fun k=>ok k∧k≠g) u xs:=by intro h_;(repeat(first|(with_reducible first|exact h_|apply Kd.cV|apply Kd.cW|apply Kd.ei)|apply aal))):ae (Kd.S d e w2 base ok u xs):=⟨Kd.iY (Kd.cS (hd (Kd.cS h.out (fun _ hk=>⟨hk,hm _ hk⟩))) (fun _ h_=>h_.1)) hb⟩
theorem xF (h:ae (Kd.S d e w base ok u xs)) (g:Nat) (hm:∀k,ok k→k≠g) (hv:∀k,v.ownBlock=some k→w1.heap.size≤k) (hb:Below w1.heap.size w1 w2) (hd:Kd.S d e w base (fun k=>ok k∧k≠g) u xs→Kd.S d e w1 base (fun k=>ok k∧k≠g) u xs:=by intro h_;(repeat(first|(with_reducible first|exact h_|apply Kd.cV|apply Kd.cW|apply Kd.ei)|apply aal))):ae (Kd.S d e w2 base (fun k=>ok k∧some k≠v.ownBlock) u xs):=⟨Kd.uv (Kd.cS (hd (Kd.cS h.out (fun _ hk=>⟨hk,hm _ hk⟩))) (fun _ h_=>h_.1)) hv hb⟩
theorem xG (h:ae (Kd.S d e w base ok (.slice A n c) xs)) (g:Nat) (hm:∀k,ok k→k≠g) (hd:Kd.S d e w base (fun k=>ok k∧k≠g) (.slice A n c) xs→Kd.S d e w1 base (fun k=>ok k∧k≠g) (.slice A n c) xs:=by intro h_;(repeat(first|(with_reducible first|exact h_|apply Kd.cV|apply Kd.cW|apply Kd.ei)|apply aal))):Kd.C d w1 A xs.length xs:=(Kd.kr (Kd.cS (hd (Kd.cS h.out (fun _ hk=>⟨hk,hm _ hk⟩))) (fun _ h_=>h_.1))).2.2
theorem tk {v1 v2 v3:Value}(h:Kd.S d e w1 base (fun k=>ok k∧k<n) u xs) (h1:∀k,v1.ownBlock=some k→n≤k) (h2:∀k,v2.ownBlock=some k→n≤k) (h3:∀k,v3.ownBlock=some k→n≤k):ae (Kd.S d e w1 base (fun k=>(((ok k∧some k≠v1.ownBlock)∧some k≠v2.ownBlock)∧some k≠v3.ownBlock)) u xs):=⟨Kd.cS (Kd.vL (Kd.vL (Kd.vL h h1) h2) h3) (fun _ h_=>h_.1)⟩
theorem adP {j:Nat}(h:Kd.Q d e w base (fun k=>ok k∧k≠g) u xs):Kd.Q d e (w.setCell ⟨g,j,none⟩ v) base (fun k=>ok k∧k≠g) u xs:=Kd.pB h (fun _ hk=>hk.2) v
theorem adQ (h:ae (Kd.Q d e w base ok u xs)) (hd:Kd.Q d e w base ok u xs→Kd.Q d e w1 base ok u xs:=by intro h_;(repeat(first|(with_reducible first|exact h_|apply Kd.ik|apply Kd.il|apply Kd.jr)))):∀k,u.ownBlock=some k→k<w1.heap.size:=Kd.aes (hd h.out)
theorem rb (h:ae (Kd.Q d e w base ok u xs)) (hb:Below w1.heap.size w1 w2) (hd:Kd.Q d e w base ok u xs→Kd.Q d e w1 base ok u xs:=by intro h_;(repeat(first|(with_reducible first|exact h_|apply Kd.ik|apply Kd.il|apply Kd.jr)))):ae (Kd.Q d e w2 base ok u xs):=⟨Kd.pC (hd h.out) hb⟩
theorem nQ1 (h:ae (Kd.Q d e w base ok u xs)) (b:ae (w.heap[g]? =some (.cells cs t (0,0)))) (ht:∀q,q∈e::d.E→q≠t:=by decide) (hd:Kd.Q d e w base (fun k=>ok k∧k≠g) u xs→Kd.Q d e w1 base (fun k=>ok k∧k≠g) u xs:=by intro h_;(repeat(first|(with_reducible first|exact h_|apply Kd.ik|apply Kd.il|apply Kd.jr)|apply adP))):Kd.Q d e w1 base ok u xs:=(Kd.lO (hd (Kd.qN h.out b.out ht)) (fun _ h_=>h_.1))
theorem ac0 (h:ae (Kd.Q d e w base ok u xs)) (b:ae (w.heap[g]? =some (.cells cs t (0,0)))) (hb:Below w1.heap.size w1 w2) (ht:∀q,q∈e::d.E→q≠t:=by decide) (hd:Kd.Q d e w base (fun k=>ok k∧k≠g) u xs→Kd.Q d e w1 base (fun k=>ok k∧k≠g) u xs:=by intro h_;(repeat(first|(with_reducible first|exact h_|apply Kd.ik|apply Kd.il|apply Kd.jr)|apply adP))):ae (Kd.Q d e w2 base ok u xs):=⟨Kd.pC (Kd.lO (hd (Kd.qN h.out b.out ht)) (fun _ h_=>h_.1)) hb⟩
theorem qa (h:ae (Kd.S d e w base ok (.slice A n c) xs)):n≤c:=(Kd.kr h.out).2.1
theorem qO {a:Addr}{v:Value}{b g:Nat}(h:w.cell? a=some v) (hG:ae (w.heap.size≤g)) (he:a.block=b:=by first|exact add_block _ _|rfl):b≠g:=he▸Nat.ne_of_lt (Nat.lt_of_lt_of_le (World.block_lt_of_cell? _ _ h) hG.out)
theorem lK {a:Addr}{v:Value}{b g:Nat}(j:Nat) (u:Value) (hn:b≠g) (h:w.cell? a=some v) (he:a.block=b:=by first|exact add_block _ _|rfl):(w.setCell ⟨g,j,none⟩ u).cell? a=some v:=(cell_far (p:=⟨g,j,none⟩) (he▸hn) u).trans h
end

section
variable {α:Type}{d:Kd α}{e base n g gb:Nat}{ok:Nat→Prop}{o:Obj}{w w0 W0 W W2:World}{A:Option Addr}{c:Nat}{u v:Value}{xs:List α}{row:Option Nat}
theorem mR (h:ae (Kd.R d e w base ok u xs)) (hd:Kd.R d e w base ok u xs→Kd.R d e W base ok u xs:=by intro h_;(repeat(first|(with_reducible first|exact h_|apply Kd.ca|apply Kd.cd|apply Kd.cj)))):Kd.R d e W base (fun _=>True) u xs:=Kd.bn (hd h.out) (fun _ _=>trivial)
theorem hB (_:ae (Below w.heap.size w W0)) (hb:Below W.heap.size W W2) (h:Below w.heap.size w W:=by repeat(first|(with_reducible first|exact HB.out|apply aX|apply aJ|apply au|refine bs_ ?_ (by with_reducible assumption))|exact HB.out)):ae (Below w.heap.size w W2):=⟨fM h hb⟩
theorem fB {k:Nat}(_:ae (w.heap[gb]? =some o)) (hk:W.heap.size≤k) (hd:W.heap[gb]? =some o:=by(repeat(first|(with_reducible first|refine cp ?_ _|refine ar ?_|refine aG ?_ _)|refine ep ?_ (ae.out (by with_reducible assumption)) _));exact ae.out (by first|(with_reducible assumption)|assumption)):k≠gb:=Kd.eC hd k hk
theorem ks (_:ae (w.heap[gb]? =some o)) (hg:W.grownBy W2 row) (hne:some gb≠row) (hd:W.heap[gb]? =some o:=by(repeat(first|(with_reducible first|refine cp ?_ _|refine ar ?_|refine aG ?_ _)|refine ep ?_ (ae.out (by with_reducible assumption)) _));exact ae.out (by first|(with_reducible assumption)|assumption)):ae (W2.heap[gb]? =some o):=⟨oq hd hg hne⟩
theorem bp_ {cs:Array Value}{t:TypeId}(cs':Array Value) (_:ae (w.heap[gb]? =some (.cells cs t (0,0)))) (hg:W.grownBy W2 row) (hne:some gb≠row) (hd:W.heap[gb]? =some (.cells cs' t (0,0)):=by(repeat(first|(with_reducible first|refine cp ?_ _|refine ar ?_|refine aG ?_ _)|(apply ep;rotate_left;exact ae.out (by with_reducible assumption);rotate_right)|apply iH));(first|exact ae.out (by with_reducible assumption)|exact ae.out (by assumption));(all_goals exact rfl)):ae (W2.heap[gb]? =some (.cells cs' t (0,0))):=⟨oq hd hg hne⟩
theorem xH {cs:Array Value}{t:TypeId}{w1:World}(h:ae (Kd.R d e w base ok u xs)) (b:ae (w.heap[g]? =some (.cells cs t (0,0)))) (ht:∀q,q∈e::d.E→q≠t:=by decide) (hd:Kd.R d e w base (fun k=>ok k∧k≠g) u xs→Kd.R d e w1 base (fun k=>ok k∧k≠g) u xs:=by intro h_;(repeat(first|(with_reducible first|exact h_|apply Kd.ca|apply Kd.cd|apply Kd.cj|apply vJ)))):Kd.R d e w1 base (fun _=>True) u xs:=Kd.bn (hd (Kd.bf h.out b.out ht)) (fun _ _=>trivial)
theorem vM {cs cs2:Array Value}{t t2 g2:Nat}{w1:World}(h:ae (Kd.R d e w base ok u xs)) (b:ae (w.heap[g]? =some (.cells cs t (0,0)))) (b2:ae (w.heap[g2]? =some (.cells cs2 t2 (0,0)))) (ht:∀q,q∈e::d.E→q≠t:=by decide) (ht2:∀q,q∈e::d.E→q≠t2:=by decide) (hd:Kd.R d e w base (fun k=>(ok k∧k≠g)∧k≠g2) u xs→Kd.R d e w1 base (fun k=>(ok k∧k≠g)∧k≠g2) u xs:=by intro h_;(repeat(first|(with_reducible first|exact h_|apply Kd.ca|apply Kd.cd|apply Kd.cj|apply aep|apply aeq)))):Kd.R d e w1 base (fun _=>True) u xs:=Kd.bn (hd (Kd.bf (Kd.bf h.out b.out ht) b2.out ht2)) (fun _ _=>trivial)
theorem hk1 (_:ae (eF w W0 g none)) (hb:Below W.heap.size W W2) (h:eF w W g none:=by repeat(first|(with_reducible first|exact HK.out|apply eF.adR|apply vN|apply xI|apply vO|refine aam ?_ (ae.out (by with_reducible assumption)) _)|exact HK.out)):ae (eF w W2 g none):=⟨h.trans (eF.of_below hb g none) (.inl rfl)⟩
end

theorem cO {α:Type}{p:Prop} [d:Decidable p] {x:Option α}{r:α}(h:(if p then x else none)=some r):decide p=true∧x=some r:=by
  rcases iM h with h|⟨_,h⟩
  · exact h
  · cases h
theorem lu {α:Type}{p:Prop} [d:Decidable p] {x:Option α}{r:α}(h:(if p then x else none)=some r):p∧x=some r:=⟨of_decide_eq_true (cO h).1,(cO h).2⟩
theorem am {p:Prop}(h:p):ae p:=⟨h⟩

theorem oY {p:Prop}(h:p:=by first|(rw[cX];with_reducible exact H)|(have H2_:=(Option.bind_some _ _).symm.trans H;rw[cX];with_reducible exact H2_)|(have H2_:=(Option.bind_some _ _).symm.trans H;with_reducible exact H2_)|with_reducible exact H|(rw[cX];exact H)|exact H):p:=h

theorem aab {w w':World}{cs:Array Value}{t:TypeId}(hb:Below (w.alloc (.cells cs t (0,0))).heap.size (w.alloc (.cells cs t (0,0))) w'):ae (w'.heap[w.heap.size]? =some (.cells cs t (0,0))):=⟨fE (iZ _ _) hb⟩
theorem bold {w w':World}{o:Obj}(hb:Below (w.alloc o).heap.size (w.alloc o) w'):Below w.heap.size w w':=fM (aX (Below.refl _ _) o) hb
theorem fV {w w':World}{g:Nat}{o:Obj}(h:ae (w.heap[g]? =some o)) (hb:Below w.heap.size w w'):ae (w'.heap[g]? =some o):=⟨fE h.out hb⟩
theorem aet {w:World}{g:Nat}{o:Obj}(h:ae (w.heap[g]? =some o)) (o':Obj):ae ((w.alloc o').heap[g]? =some o):=⟨aG h.out o'⟩
theorem sD {w w':World}{g:Nat}{o:Obj}{S:Nat→Prop}(h:ae (w.heap[g]? =some o)) (hk:Kept w w' S) (hn:¬S g):ae (w'.heap[g]? =some o):=⟨uw h.out hk hn⟩
section
variable {α:Type}{d:Kd α}{e base n:Nat}{ok:Nat→Prop}{w w1:World}{A:Option Addr}{c:Nat}{v:Value}{xs:List α}
theorem rS (_:ae (Kd.S d e w base ok (.slice A n c) xs)) (hd:Kd.S d e w1 base ok (.slice A n c) xs:=by(with_reducible repeat(first|apply Kd.cV|apply Kd.cW|apply Kd.ei));exact ae.out (by first|(with_reducible assumption)|assumption)):Kd.C d w1 A xs.length xs:=(Kd.kr hd).2.2
theorem rl (h:ae (Kd.S d e w base ok (.slice A n c) xs)):xs.length≤c:=by have:=(Kd.kr h.out).1;have:=(Kd.kr h.out).2.1;omega
theorem sb (h:ae (Kd.S d e w base ok v xs)) (hb:Below w.heap.size w w1):ae (Kd.S d e w1 base ok v xs):=⟨Kd.iY h.out hb⟩
end

theorem sk {α:Type}{d:Kd α}{e:Nat}{w w':World}{base:Nat}{ok S:Nat→Prop}{v:Value}{xs:List α}(h:ae (Kd.S d e w base ok v xs)) (hk:Kept w w' S) (hn:∀k,ok k→¬S k):ae (Kd.S d e w' base ok v xs):=⟨Kd.ac1 h.out hk hn⟩
theorem rk {α:Type}{d:Kd α}{e:Nat}{w w':World}{base:Nat}{ok S:Nat→Prop}{v:Value}{xs:List α}(h:ae (Kd.R d e w base ok v xs)) (hk:Kept w w' S) (hn:∀k,ok k→¬S k):ae (Kd.R d e w' base ok v xs):=⟨Kd.pl h.out hk hn⟩
theorem na {w:World}{g:Nat}{t:TypeId}{v0 v1:Value}(h:ae (w.heap[g]? =some (.cells #[v0,v1] t (0,0)))):∀o,((w.alloc o).cell? ⟨g,0,none⟩=some v0∧(w.alloc o).cell? ⟨g,1,none⟩=some v1):=fun o=>(z2 (aet h o)).1
theorem vH {α:Type}{d:Kd α}{e:Nat}{w':World}{base:Nat}{v:Value}{xs:List α}(h:Kd.S d e w' base (fun _=>True) v xs) (lo B:Nat) (hl:lo≤base) (hB:B≤base):ae (Kd.S d e w' B (fun k=>lo≤k∧k<w'.heap.size) v xs):=⟨Kd.hL (Kd.cS (Kd.la h) (fun _ hk=>⟨Nat.le_trans hl hk.2.1,hk.2.2.1⟩)) hB⟩
theorem ac2 {α:Type}{d:Kd α}{e:Nat}{w':World}{base:Nat}{v:Value}{xs:List α}(h:Kd.R d e w' base (fun _=>True) v xs) (lo B:Nat) (hl:lo≤base) (hB:B≤base):ae (Kd.R d e w' B (fun k=>lo≤k∧k<w'.heap.size) v xs):=⟨Kd.aw (Kd.bn (Kd.jf h) (fun _ hk=>⟨Nat.le_trans hl hk.2.1,hk.2.2.1⟩)) hB⟩
theorem wZ {w:World}{g:Nat}{o:Obj}(h:ae (w.heap[g]? =some o)):ae (w.drew.heap[g]? =some o):=⟨ar h.out⟩
theorem acB {α:Type}{d:Kd α}{e base:Nat}{ok:Nat→Prop}{w:World}{v:Value}{xs:List α}(h:ae (Kd.S d e w base ok v xs)):ae (Kd.S d e w.drew base ok v xs):=⟨Kd.ei h.out⟩
section
variable {α:Type}{d:Kd α}{e base n:Nat}{ok S:Nat→Prop}{w w1:World}{A:Option Addr}{c:Nat}{v:Value}{xs:List α}
end
theorem ux {α:Type}(cur inner vs:List α) (p z:Nat) (hv:vs.length=z) (hp:p≤inner.length) (hT:cur.take p=inner.take p) (hl:p+z≤cur.length) (c1:List α) (h1:c1=cur.take (p+z)++inner.drop p++cur.drop (p+z+(inner.drop p).length)):
    (c1.take p++vs++c1.drop (p+vs.length)).take (inner.length+z)=inner.take p++vs++inner.drop p:=by
  have hct:(cur.take (p+z)).length=p+z:=by rw[List.length_take];omega
  have e1:c1.take p=inner.take p:=by
    rw[h1,List.append_assoc,List.take_append_of_le_length (by omega),List.take_take,Nat.min_eq_left (by omega),hT]
  have e2:c1.drop (p+vs.length)=inner.drop p++cur.drop (p+z+(inner.drop p).length):=by
    rw[h1,hv,List.append_assoc,List.drop_left' hct]
  rw[e1,e2,←List.append_assoc];refine List.take_left' ?_;simp only[List.length_append,List.length_take,List.length_drop]
  omega
theorem sF {α:Type}(row inner vs:List α) (p z:Nat) (hv:vs.length=z) (hp:p≤inner.length) (hT:row.take p=inner.take p) (c1:List α) (hl:p≤row.length) (h1:c1=row.take p++vs++row.drop (p+vs.length)):
    (c1.take (p+z)++inner.drop p++c1.drop (p+z+(inner.drop p).length)).take (inner.length+z)=inner.take p++vs++inner.drop p:=by
  have e1:c1.take (p+z)=inner.take p++vs:=by
    rw[h1,hT];exact List.take_left' (by simp only[List.length_append,List.length_take];omega)
  rw[e1];refine List.take_left' ?_;simp only[List.length_append,List.length_take,List.length_drop]
  omega
theorem qP {sz e:Nat}{W:World}{base:Nat}{ok:Nat→Prop}{g n c:Nat}{rows:List (List Value)}{cur:Array Value}(hb:W.heap[g]? =some (.cells cur e (0,0))) (hcs:cur.size=c*sz) (hnc:n≤c) (hcm:c≤maxLen) (hbg:base≤g) (hok:ok g) (hrl:rows.length=n)
    (hr:cK (fun x cs=>cs=x∧cs.length=sz∧∀u∈cs,u.oneCell'=true) sz rows (cur.toList.take (n*sz))):(Kd.raw sz).R e W base ok (.slice (some ⟨g,0,none⟩) n c) rows:=by
  subst hrl;exact⟨fun k hk=>by simp only[Value.ownBlock,Option.some.injEq]at hk;exact hk▸hok,_,⟨hr.1,.inr ⟨g,c,cur,rfl,hbg,hb,hnc,hcm,hcs,rfl⟩⟩,hr⟩
theorem uy {sz i:Nat}{rows:List (List Value)}{inner vs:List Value}(h:cK (fun x cs=>cs=x∧cs.length=sz∧∀u∈cs,u.oneCell'=true) sz rows inner) (hi:i≤rows.length) (hvl:vs.length=sz) (h1:∀u∈vs,u.oneCell'=true):
    cK (fun x cs=>cs=x∧cs.length=sz∧∀u∈cs,u.oneCell'=true) sz (rows.take i++[vs]++rows.drop i) (inner.take (i*sz)++vs++inner.drop (i*sz)):=
  Kd.mc (cK.snoc (Kd.sG h hi) ⟨rfl,hvl,h1⟩ hvl) (Kd.qb h)
theorem ot (w:World) (g a b:Nat) (xs ys:List Value):w.grownBy ((w.drew.setCells g a xs).setCells g b ys) (some g):=by
  obtain⟨a1,a2,a3,a4⟩:=fP g xs a w.drew;obtain⟨b1,b2,b3,b4⟩:=fP g ys b (w.drew.setCells g a xs)
  exact⟨b1.trans a1,b2.trans a2,b3.trans a3,by rw[b4,a4];exact Nat.le_refl _,fun k _ hk=>by
    have hkg:k≠g:=fun he=>hk (by rw[he])
    rw[eN _ _ k hkg,eN _ _ k hkg];rfl⟩
theorem kt (w:World) (o:Obj) (a b:Nat) (xs ys:List Value) (row:Option Nat):w.grownBy ((((w.alloc o).drew.setCells w.heap.size a xs).drew).setCells w.heap.size b ys) row:=by
  obtain⟨a1,a2,a3,a4⟩:=fP w.heap.size xs a (w.alloc o).drew;obtain⟨b1,b2,b3,b4⟩:=fP w.heap.size ys b ((w.alloc o).drew.setCells w.heap.size a xs).drew
  exact⟨b1.trans a1,b2.trans a2,b3.trans a3,by rw[b4];show _≤((w.alloc o).drew.setCells w.heap.size a xs).heap.size;rw[a4];show _≤(w.alloc o).heap.size;rw[World.size_alloc];omega,fun k hk _=>by
    have hkg:k≠w.heap.size:=by omega
    rw[eN _ _ k hkg]
    show((w.alloc o).drew.setCells w.heap.size a xs).heap[k]? =_
    rw[eN _ _ k hkg]
    exact Below.heap_alloc w o k hk⟩
/-- A row of flat structs as raw cells, and back. -/
theorem adS {α:Type}{d:Kd α}{e:Nat}{W:World}{base:Nat}{ok:Nat→Prop}{v:Value}{xs:List α}(enc:α→List Value) (h1:∀(w:World) (b:Nat) (o:Nat→Prop) (x:α) (cs:List Value),d.M w b o x cs→cs=enc x) (h:d.R e W base ok v xs):(Kd.raw d.sz).R e W base ok v (xs.map enc):=by
  obtain⟨h0,inner,ho,hr⟩:=h;refine⟨h0,inner,by rw[List.length_map];exact ho,by rw[List.length_map];exact hr.1,fun j p hj=> ?_⟩;rw[List.getElem?_map]at hj;obtain⟨x,hx,rfl⟩:=Option.map_eq_some_iff.1 hj;have hm:=hr.2 j x hx;have hk:=d.eI hm;exact⟨h1 _ _ _ _ _ hm,d.im hk,d.gu hk⟩
theorem aan {α:Type}{d:Kd α}{e:Nat}{W:World}{base:Nat}{ok:Nat→Prop}{v:Value}{xs:List α}(enc:α→List Value) (h1:∀(w:World) (b:Nat) (o:Nat→Prop) (x:α),d.M w b o x (enc x)) (h:(Kd.raw d.sz).R e W base ok v (xs.map enc)):d.R e W base ok v xs:=by
  obtain⟨h0,inner,ho,hr⟩:=h;rw[List.length_map]at ho;have hl:=hr.1;rw[List.length_map]at hl;refine⟨h0,inner,ho,hl,fun j x hx=> ?_⟩;have hrow:=(hr.2 j (enc x) (by rw[List.getElem?_map,hx];rfl)).1
  show d.M _ _ _ x ((inner.drop (j*d.sz)).take d.sz)
  rw[show(inner.drop (j*d.sz)).take d.sz=enc x from hrow];exact h1 _ _ _ _
theorem abZ:∀(x y:List UInt8),(!Op.bytesLess x y&& !(x==y))=Op.bytesLess y x
  |[],[]=>rfl
  |_::_,[]=>by simp[Op.bytesLess]
  |[],_::_=>by simp[Op.bytesLess]
  |a::x,b::y=>by
    have ih:=abZ x y
    by_cases h2:a=b
    · subst h2;simp only[Op.bytesLess,UInt8.lt_irrefl,decide_false,Bool.false_or,beq_self_eq_true,Bool.true_and,List.cons_beq_cons];exact ih
    · have h3:(a==b)=false:=by simpa using h2
      have h4:(b==a)=false:=by simpa using fun h=>h2 h.symm
      by_cases h1:a<b
      · have h5:¬b<a:=UInt8.lt_asymm h1;simp[Op.bytesLess,h1,h3,h4,h5]
      · have h5:b<a:=UInt8.lt_of_le_of_ne (UInt8.not_lt.1 h1) (fun h=>h2 h.symm);simp[Op.bytesLess,h1,h3,h4,h5]
section
variable {P:Program}{ops:Array Oper}{rest:List Oper}{o:Oper}{a:Act}{Q:Exit→Act→World→Prop}
theorem si {W w1:World}(hgd:o.guard=none) {b:Builtin}{xs:Array Operand}{ts:Array TypeId}(_ho:o.op= .call {callee:= .builtin b,args:=xs,argTypes:=ts}) (hN:o.dst=none) {v:Value}
    (hrun:(execOp a.eval o).run P W= .ok (.value v) w1) (h:∀w',w'=w1→wpList P ops Q rest a w'):wpList P ops Q (o::rest) a W:=by
  refine wpList_plain hgd fun K hK=> ?_
  unfold Oper.wp;rw[hrun]
  show K (a.put o.dst v) w1
  rw[hN];exact hK _ _ (h _ rfl)
end
theorem sj {z:Array Value}(h:∀v∈z.toList,v.oneCell'=true) (n:Nat):∀v∈(Builtin.zeroCells z n).toList,v.oneCell'=true:=by
  intro v hv;unfold Builtin.zeroCells at hv;simp only[Array.toList_map,List.mem_map,Array.toList_range,List.mem_range]at hv;obtain⟨i,hi,rfl⟩:=hv
  have hz:0<z.size:=by
    rcases Nat.eq_zero_or_pos z.size with h0|h0
    · rw[h0]at hi;simp at hi
    · exact h0
  have hlt:=Nat.mod_lt i hz;rw[getElem!_pos z (i%z.size) hlt];exact h _ (Array.getElem_mem_toList hlt)
theorem xJ {P:Program}{w w1:World}{t ty elem:TypeId}{z:Value}{a:Addr}{n c:Nat}(hu:P.underlying t=some (.slice elem)) (hz:(zeroValue elem).run P w= .ok z w) (hn:n≠0) (hst:(storeCells a (Builtin.zeroCells z.cells n).toList).run P w= .ok () w1):
    (Builtin.clear_ #[t] ty #[.slice (some a) n c]).run P w= .ok (.tuple #[]) w1:=by
  cases n with
  |zero=>exact absurd rfl hn
  |succ n=>simp[Builtin.clear_,run_underlying hu,hz,hst,Result.andThen]
def adT:Option Int→Value
  |none=> .nilIface
  |some c=> .iface 0 (.int .i64 c)
theorem eQ:adT none= .nilIface:=rfl
theorem eR (c:Int):adT (some c)= .iface 0 (.int .i64 c):=rfl

theorem info3:(Tryz.prog.info? 3).map (fun i=>(i.zero,i.size,i.bytes))=some (some (.int .i64 0),1,8):=by kernel_rfl
theorem info5:(Tryz.prog.info? 5).map (fun i=>(i.zero,i.size,i.bytes))=some (some (.int .u8 0),1,1):=by kernel_rfl
theorem info9:(Tryz.prog.info? 9).map (fun i=>(i.zero,i.size,i.bytes))=some (some (.string ⟨#[]⟩),1,16):=by kernel_rfl
theorem kT:(Tryz.prog.info? 58).map (fun i=>(i.zero,i.size,i.bytes))=some (some (.agg #[(.int .i64 0),(.int .i64 0),(.int .i64 0),(.slice none 0 0),(.slice none 0 0),(.slice none 0 0)]),6,96):=by kernel_rfl
theorem vP:(Tryz.prog.info? 75).map (fun i=>(i.zero,i.size,i.bytes))=some (some (.agg #[(.string ⟨#[]⟩),(.int .i64 0)]),2,24):=by kernel_rfl
theorem nP:(Tryz.prog.info? 82).map (fun i=>(i.zero,i.size,i.bytes))=some (some (.agg #[(.string ⟨#[]⟩),(.string ⟨#[]⟩)]),2,32):=by kernel_rfl
-- the values' own types
/-! #### struct type 131 -/
structure kd where
  f0:ByteArray
  f1:Int
def z131:kd:=⟨(⟨#[]⟩:ByteArray),(0:Int)⟩
def qH:Kd kd:=Kd.iso (Kd.pair Kd.string (Kd.int .i64)) (fun x:kd=>(x.f0,x.f1))
theorem xK {w:World}{x:kd}{cs:List Value}(h:qH.K w x cs):cs=[.string x.f0,.int .i64 x.f1]:=by
  obtain⟨_,_,rfl,rfl,rfl⟩:=h;exact rfl
def iq (xs:List kd) (i:Int):kd:=xs.getD i.toNat z131
theorem ab0 {w:World}{A:Option Addr}{n:Nat}{xs:List kd}(h:Kd.C qH w A n xs) (i:Int) (h0:0≤i) (h1:i<n):∃ad,A=some ad∧w.cell? (ad.add (i.toNat*2))=some (.string (iq xs i).f0)∧w.cell? ⟨(ad.add (i.toNat*2)).block,(ad.add (i.toNat*2)).off+1,none⟩=some (.int .i64 (iq xs i).f1):=by
  obtain⟨ad,c,e,_,hK,hc0⟩:=Kd.oV h z131 i h0 h1;have hc:∀j u,c[j]? =some u→w.cell? (ad.add (i.toNat*2+j))=some u:=hc0;obtain rfl:=xK hK;exact⟨ad,e,hc 0 _ rfl,by rw[←gf _ _ 1 (by omega)];exact hc 1 _ rfl⟩
theorem tm {w W:World}{A:Option Addr}{n:Nat}{xs:List kd}(h:ae (Kd.C qH w A n xs)) (hb:ae (Below w.heap.size w W)) (i:Int) (h0:0≤i) (h1:i<n):∃ad,A=some ad∧W.cell? (ad.add (i.toNat*2))=some (.string (iq xs i).f0)∧W.cell? ⟨(ad.add (i.toNat*2)).block,(ad.add (i.toNat*2)).off+1,none⟩=some (.int .i64 (iq xs i).f1):=by
  obtain⟨ad,h0_,h1_,h2_⟩:=ab0 h.out i h0 h1;exact⟨ad,h0_,cB hb h1_,cB hb h2_⟩

/-! #### struct type 133 -/
structure ke where
  f0:ByteArray
  f1:ByteArray
def adU:ke:=⟨(⟨#[]⟩:ByteArray),(⟨#[]⟩:ByteArray)⟩
def qI:Kd ke:=Kd.iso (Kd.pair Kd.string Kd.string) (fun x:ke=>(x.f0,x.f1))
theorem xL {w:World}{x:ke}{cs:List Value}(h:qI.K w x cs):cs=[.string x.f0,.string x.f1]:=by
  obtain⟨_,_,rfl,rfl,rfl⟩:=h;exact rfl
def hO (xs:List ke) (i:Int):ke:=xs.getD i.toNat adU
theorem ab1 {w:World}{A:Option Addr}{n:Nat}{xs:List ke}(h:Kd.C qI w A n xs) (i:Int) (h0:0≤i) (h1:i<n):∃ad,A=some ad∧w.cell? (ad.add (i.toNat*2))=some (.string (hO xs i).f0)∧w.cell? ⟨(ad.add (i.toNat*2)).block,(ad.add (i.toNat*2)).off+1,none⟩=some (.string (hO xs i).f1):=by
  obtain⟨ad,c,e,_,hK,hc0⟩:=Kd.oV h adU i h0 h1;have hc:∀j u,c[j]? =some u→w.cell? (ad.add (i.toNat*2+j))=some u:=hc0;obtain rfl:=xL hK;exact⟨ad,e,hc 0 _ rfl,by rw[←gf _ _ 1 (by omega)];exact hc 1 _ rfl⟩
theorem tp {w W:World}{A:Option Addr}{n:Nat}{xs:List ke}(h:ae (Kd.C qI w A n xs)) (hb:ae (Below w.heap.size w W)) (i:Int) (h0:0≤i) (h1:i<n):∃ad,A=some ad∧W.cell? (ad.add (i.toNat*2))=some (.string (hO xs i).f0)∧W.cell? ⟨(ad.add (i.toNat*2)).block,(ad.add (i.toNat*2)).off+1,none⟩=some (.string (hO xs i).f1):=by
  obtain⟨ad,h0_,h1_,h2_⟩:=ab1 h.out i h0 h1;exact⟨ad,h0_,cB hb h1_,cB hb h2_⟩

/-! #### struct type 92 -/
structure nc where
  f0:Int
  f1:Int
  f2:Int
  f3:(List Int)
  f4:(List kd)
  f5:(List ke)
def z92:nc:=⟨(0:Int),(0:Int),(0:Int),([]:List Int),([]:List kd),([]:List ke)⟩
def k92:Kd nc:=Kd.iso (Kd.pair (Kd.int .i64) (Kd.pair (Kd.int .i64) (Kd.pair (Kd.int .i64) (Kd.pair (Kd.slice 5 (Kd.int .u8)) (Kd.pair (Kd.slice 131 qH) (Kd.slice 133 qI)))))) (fun x:nc=>(x.f0,x.f1,x.f2,x.f3,x.f4,x.f5))
theorem aao {w:World}{x:nc}{cs:List Value}(h:k92.K w x cs):∃A3 c3 A4 c4 A5 c5,cs=[.int .i64 x.f0,.int .i64 x.f1,.int .i64 x.f2,.slice A3 x.f3.length c3,.slice A4 x.f4.length c4,.slice A5 x.f5.length c5]∧x.f3.length≤c3∧(Kd.int .u8).C w A3 x.f3.length x.f3∧x.f4.length≤c4∧qH.C w A4 x.f4.length x.f4∧x.f5.length≤c5∧qI.C w A5 x.f5.length x.f5:=by
  obtain⟨_,_,rfl,rfl,⟨_,_,rfl,rfl,⟨_,_,rfl,rfl,⟨_,_,rfl,⟨A3,c3,rfl,l3,g3⟩,⟨_,_,rfl,⟨A4,c4,rfl,l4,g4⟩,⟨A5,c5,rfl,l5,g5⟩⟩⟩⟩⟩⟩:=h;exact⟨A3,c3,A4,c4,A5,c5,rfl,l3,g3,l4,g4,l5,g5⟩
def cI (xs:List nc) (i:Int):nc:=xs.getD i.toNat z92
theorem ac3 {w:World}{A:Option Addr}{n:Nat}{xs:List nc}(h:Kd.C k92 w A n xs) (i:Int) (h0:0≤i) (h1:i<n):∃ad A3 c3 A4 c4 A5 c5,A=some ad∧w.cell? (ad.add (i.toNat*6))=some (.int .i64 (cI xs i).f0)∧w.cell? ⟨(ad.add (i.toNat*6)).block,(ad.add (i.toNat*6)).off+1,none⟩=some (.int .i64 (cI xs i).f1)∧w.cell? ⟨(ad.add (i.toNat*6)).block,(ad.add (i.toNat*6)).off+2,none⟩=some (.int .i64 (cI xs i).f2)∧w.cell? ⟨(ad.add (i.toNat*6)).block,(ad.add (i.toNat*6)).off+3,none⟩=some (.slice A3 (cI xs i).f3.length c3)∧w.cell? ⟨(ad.add (i.toNat*6)).block,(ad.add (i.toNat*6)).off+4,none⟩=some (.slice A4 (cI xs i).f4.length c4)∧w.cell? ⟨(ad.add (i.toNat*6)).block,(ad.add (i.toNat*6)).off+5,none⟩=some (.slice A5 (cI xs i).f5.length c5)∧(cI xs i).f3.length≤c3∧(Kd.int .u8).C w A3 (cI xs i).f3.length (cI xs i).f3∧(cI xs i).f4.length≤c4∧qH.C w A4 (cI xs i).f4.length (cI xs i).f4∧(cI xs i).f5.length≤c5∧qI.C w A5 (cI xs i).f5.length (cI xs i).f5:=by
  obtain⟨ad,c,e,_,hK,hc0⟩:=Kd.oV h z92 i h0 h1;have hc:∀j u,c[j]? =some u→w.cell? (ad.add (i.toNat*6+j))=some u:=hc0;obtain⟨A3,c3,A4,c4,A5,c5,rfl,l3,g3,l4,g4,l5,g5⟩:=aao hK;exact⟨ad,A3,c3,A4,c4,A5,c5,e,hc 0 _ rfl,by rw[←gf _ _ 1 (by omega)];exact hc 1 _ rfl,by rw[←gf _ _ 2 (by omega)];exact hc 2 _ rfl,by rw[←gf _ _ 3 (by omega)];exact hc 3 _ rfl,by rw[←gf _ _ 4 (by omega)];exact hc 4 _ rfl,by rw[←gf _ _ 5 (by omega)];exact hc 5 _ rfl,l3,g3,l4,g4,l5,g5⟩
theorem vQ {w W:World}{A:Option Addr}{n:Nat}{xs:List nc}(h:ae (Kd.C k92 w A n xs)) (hb:ae (Below w.heap.size w W)) (i:Int) (h0:0≤i) (h1:i<n):∃ad A3 c3 A4 c4 A5 c5,A=some ad∧W.cell? (ad.add (i.toNat*6))=some (.int .i64 (cI xs i).f0)∧W.cell? ⟨(ad.add (i.toNat*6)).block,(ad.add (i.toNat*6)).off+1,none⟩=some (.int .i64 (cI xs i).f1)∧W.cell? ⟨(ad.add (i.toNat*6)).block,(ad.add (i.toNat*6)).off+2,none⟩=some (.int .i64 (cI xs i).f2)∧W.cell? ⟨(ad.add (i.toNat*6)).block,(ad.add (i.toNat*6)).off+3,none⟩=some (.slice A3 (cI xs i).f3.length c3)∧W.cell? ⟨(ad.add (i.toNat*6)).block,(ad.add (i.toNat*6)).off+4,none⟩=some (.slice A4 (cI xs i).f4.length c4)∧W.cell? ⟨(ad.add (i.toNat*6)).block,(ad.add (i.toNat*6)).off+5,none⟩=some (.slice A5 (cI xs i).f5.length c5)∧ae ((cI xs i).f3.length≤c3)∧ae ((Kd.int .u8).C w A3 (cI xs i).f3.length (cI xs i).f3)∧ae ((cI xs i).f4.length≤c4)∧ae (qH.C w A4 (cI xs i).f4.length (cI xs i).f4)∧ae ((cI xs i).f5.length≤c5)∧ae (qI.C w A5 (cI xs i).f5.length (cI xs i).f5):=by
  obtain⟨ad,A3,c3,A4,c4,A5,c5,h0_,h1_,h2_,h3_,h4_,h5_,h6_,h7_,h8_,h9_,ac4,ac5,ac6⟩:=ac3 h.out i h0 h1;exact⟨ad,A3,c3,A4,c4,A5,c5,h0_,cB hb h1_,cB hb h2_,cB hb h3_,cB hb h4_,cB hb h5_,cB hb h6_,⟨h7_⟩,⟨h8_⟩,⟨h9_⟩,⟨ac4⟩,⟨ac5⟩,⟨ac6⟩⟩

/-! #### struct type 75 -/
structure ey where
  f0:ByteArray
  f1:Int
def z75:ey:=⟨(⟨#[]⟩:ByteArray),(0:Int)⟩
def jc:Kd ey:=Kd.iso (Kd.pair Kd.string (Kd.int .i64)) (fun x:ey=>(x.f0,x.f1))
theorem aap {w:World}{x:ey}{cs:List Value}(h:jc.K w x cs):cs=[.string x.f0,.int .i64 x.f1]:=by
  obtain⟨_,_,rfl,rfl,rfl⟩:=h;exact rfl
theorem lL {w:World}{base:Nat}{ok:Nat→Prop}{x:ey}{cs:List Value}(h:jc.M w base ok x cs):cs=[.string x.f0,.int .i64 x.f1]:=by
  obtain⟨_,_,rfl,rfl,rfl⟩:=h;exact rfl
theorem qQ (w:World) (base:Nat) (ok:Nat→Prop) (x:ey):jc.M w base ok x [.string x.f0,.int .i64 x.f1]:=⟨[.string x.f0],[.int .i64 x.f1],rfl,rfl,rfl⟩
def al (xs:List ey) (i:Int):ey:=xs.getD i.toNat z75
theorem dd {w:World}{A:Option Addr}{n:Nat}{xs:List ey}(h:Kd.C jc w A n xs) (i:Int) (h0:0≤i) (h1:i<n):∃ad,A=some ad∧w.cell? (ad.add (i.toNat*2))=some (.string (al xs i).f0)∧w.cell? ⟨(ad.add (i.toNat*2)).block,(ad.add (i.toNat*2)).off+1,none⟩=some (.int .i64 (al xs i).f1):=by
  obtain⟨ad,c,e,_,hK,hc0⟩:=Kd.oV h z75 i h0 h1;have hc:∀j u,c[j]? =some u→w.cell? (ad.add (i.toNat*2+j))=some u:=hc0;obtain rfl:=aap hK;exact⟨ad,e,hc 0 _ rfl,by rw[←gf _ _ 1 (by omega)];exact hc 1 _ rfl⟩
theorem ky {w W:World}{A:Option Addr}{n:Nat}{xs:List ey}(h:ae (Kd.C jc w A n xs)) (hb:ae (Below w.heap.size w W)) (i:Int) (h0:0≤i) (h1:i<n):∃ad,A=some ad∧W.cell? (ad.add (i.toNat*2))=some (.string (al xs i).f0)∧W.cell? ⟨(ad.add (i.toNat*2)).block,(ad.add (i.toNat*2)).off+1,none⟩=some (.int .i64 (al xs i).f1):=by
  obtain⟨ad,h0_,h1_,h2_⟩:=dd h.out i h0 h1;exact⟨ad,h0_,cB hb h1_,cB hb h2_⟩

/-! #### struct type 82 -/
structure ct where
  f0:ByteArray
  f1:ByteArray
def z82:ct:=⟨(⟨#[]⟩:ByteArray),(⟨#[]⟩:ByteArray)⟩
def fa:Kd ct:=Kd.iso (Kd.pair Kd.string Kd.string) (fun x:ct=>(x.f0,x.f1))
theorem aaq {w:World}{x:ct}{cs:List Value}(h:fa.K w x cs):cs=[.string x.f0,.string x.f1]:=by
  obtain⟨_,_,rfl,rfl,rfl⟩:=h;exact rfl
theorem ff {w:World}{base:Nat}{ok:Nat→Prop}{x:ct}{cs:List Value}(h:fa.M w base ok x cs):cs=[.string x.f0,.string x.f1]:=by
  obtain⟨_,_,rfl,rfl,rfl⟩:=h;exact rfl
theorem iI (w:World) (base:Nat) (ok:Nat→Prop) (x:ct):fa.M w base ok x [.string x.f0,.string x.f1]:=⟨[.string x.f0],[.string x.f1],rfl,rfl,rfl⟩
def an (xs:List ct) (i:Int):ct:=xs.getD i.toNat z82
theorem cZ {w:World}{A:Option Addr}{n:Nat}{xs:List ct}(h:Kd.C fa w A n xs) (i:Int) (h0:0≤i) (h1:i<n):∃ad,A=some ad∧w.cell? (ad.add (i.toNat*2))=some (.string (an xs i).f0)∧w.cell? ⟨(ad.add (i.toNat*2)).block,(ad.add (i.toNat*2)).off+1,none⟩=some (.string (an xs i).f1):=by
  obtain⟨ad,c,e,_,hK,hc0⟩:=Kd.oV h z82 i h0 h1;have hc:∀j u,c[j]? =some u→w.cell? (ad.add (i.toNat*2+j))=some u:=hc0;obtain rfl:=aaq hK;exact⟨ad,e,hc 0 _ rfl,by rw[←gf _ _ 1 (by omega)];exact hc 1 _ rfl⟩
theorem rf {w W:World}{A:Option Addr}{n:Nat}{xs:List ct}(h:ae (Kd.C fa w A n xs)) (hb:ae (Below w.heap.size w W)) (i:Int) (h0:0≤i) (h1:i<n):∃ad,A=some ad∧W.cell? (ad.add (i.toNat*2))=some (.string (an xs i).f0)∧W.cell? ⟨(ad.add (i.toNat*2)).block,(ad.add (i.toNat*2)).off+1,none⟩=some (.string (an xs i).f1):=by
  obtain⟨ad,h0_,h1_,h2_⟩:=cZ h.out i h0 h1;exact⟨ad,h0_,cB hb h1_,cB hb h2_⟩

/-! #### struct type 58 -/
structure bm where
  f0:Int
  f1:Int
  f2:Int
  f3:(List Int)
  f4:(List ey)
  f5:(List ct)
def z58:bm:=⟨(0:Int),(0:Int),(0:Int),([]:List Int),([]:List ey),([]:List ct)⟩
def fN:Kd bm:=Kd.iso (Kd.pair (Kd.int .i64) (Kd.pair (Kd.int .i64) (Kd.pair (Kd.int .i64) (Kd.pair (Kd.slice 5 (Kd.int .u8)) (Kd.pair (Kd.slice 75 jc) (Kd.slice 82 fa)))))) (fun x:bm=>(x.f0,x.f1,x.f2,x.f3,x.f4,x.f5))
theorem nQ {w:World}{x:bm}{cs:List Value}(h:fN.K w x cs):∃A3 c3 A4 c4 A5 c5,cs=[.int .i64 x.f0,.int .i64 x.f1,.int .i64 x.f2,.slice A3 x.f3.length c3,.slice A4 x.f4.length c4,.slice A5 x.f5.length c5]∧x.f3.length≤c3∧(Kd.int .u8).C w A3 x.f3.length x.f3∧x.f4.length≤c4∧jc.C w A4 x.f4.length x.f4∧x.f5.length≤c5∧fa.C w A5 x.f5.length x.f5:=by
  obtain⟨_,_,rfl,rfl,⟨_,_,rfl,rfl,⟨_,_,rfl,rfl,⟨_,_,rfl,⟨A3,c3,rfl,l3,g3⟩,⟨_,_,rfl,⟨A4,c4,rfl,l4,g4⟩,⟨A5,c5,rfl,l5,g5⟩⟩⟩⟩⟩⟩:=h;exact⟨A3,c3,A4,c4,A5,c5,rfl,l3,g3,l4,g4,l5,g5⟩
theorem qc {w:World}{base:Nat}{ok:Nat→Prop}{x:bm}{cs:List Value}(h:fN.M w base ok x cs):∃v3 v4 v5,cs=[.int .i64 x.f0,.int .i64 x.f1,.int .i64 x.f2,v3,v4,v5]∧(Kd.int .u8).R 5 w base ok v3 x.f3∧jc.R 75 w base ok v4 x.f4∧fa.R 82 w base ok v5 x.f5:=by
  obtain⟨_,_,rfl,rfl,⟨_,_,rfl,rfl,⟨_,_,rfl,rfl,⟨_,_,rfl,⟨v3,rfl,g3⟩,⟨_,_,rfl,⟨v4,rfl,g4⟩,⟨v5,rfl,g5⟩⟩⟩⟩⟩⟩:=h;exact⟨v3,v4,v5,rfl,g3,g4,g5⟩
theorem ac7 (w:World) (x:bm) {A3:Option Addr}{c3:Nat}(l3:x.f3.length≤c3) (g3:(Kd.int .u8).C w A3 x.f3.length x.f3) {A4:Option Addr}{c4:Nat}(l4:x.f4.length≤c4) (g4:jc.C w A4 x.f4.length x.f4) {A5:Option Addr}{c5:Nat}(l5:x.f5.length≤c5) (g5:fa.C w A5 x.f5.length x.f5):fN.K w x [.int .i64 x.f0,.int .i64 x.f1,.int .i64 x.f2,.slice A3 x.f3.length c3,.slice A4 x.f4.length c4,.slice A5 x.f5.length c5]:=⟨[.int .i64 x.f0],[.int .i64 x.f1,.int .i64 x.f2,.slice A3 x.f3.length c3,.slice A4 x.f4.length c4,.slice A5 x.f5.length c5],rfl,rfl,⟨[.int .i64 x.f1],[.int .i64 x.f2,.slice A3 x.f3.length c3,.slice A4 x.f4.length c4,.slice A5 x.f5.length c5],rfl,rfl,⟨[.int .i64 x.f2],[.slice A3 x.f3.length c3,.slice A4 x.f4.length c4,.slice A5 x.f5.length c5],rfl,rfl,⟨[.slice A3 x.f3.length c3],[.slice A4 x.f4.length c4,.slice A5 x.f5.length c5],rfl,⟨A3,c3,rfl,l3,g3⟩,⟨[.slice A4 x.f4.length c4],[.slice A5 x.f5.length c5],rfl,⟨A4,c4,rfl,l4,g4⟩,⟨A5,c5,rfl,l5,g5⟩⟩⟩⟩⟩⟩
theorem ou (w:World) (base:Nat) (ok:Nat→Prop) (x:bm) {v3:Value}(g3:(Kd.int .u8).R 5 w base ok v3 x.f3) {v4:Value}(g4:jc.R 75 w base ok v4 x.f4) {v5:Value}(g5:fa.R 82 w base ok v5 x.f5):fN.M w base ok x [.int .i64 x.f0,.int .i64 x.f1,.int .i64 x.f2,v3,v4,v5]:=⟨[.int .i64 x.f0],[.int .i64 x.f1,.int .i64 x.f2,v3,v4,v5],rfl,rfl,⟨[.int .i64 x.f1],[.int .i64 x.f2,v3,v4,v5],rfl,rfl,⟨[.int .i64 x.f2],[v3,v4,v5],rfl,rfl,⟨[v3],[v4,v5],rfl,⟨v3,rfl,g3⟩,⟨[v4],[v5],rfl,⟨v4,rfl,g4⟩,⟨v5,rfl,g5⟩⟩⟩⟩⟩⟩
theorem sH {W:World}{ok:Nat→Prop}{x:bm}{cs:List Value}(h:Kd.FK fN W ok x cs):∃A3 c3 A4 c4 A5 c5,cs=[.int .i64 x.f0,.int .i64 x.f1,.int .i64 x.f2,.slice A3 x.f3.length c3,.slice A4 x.f4.length c4,.slice A5 x.f5.length c5]∧x.f3.length≤c3∧Kd.F (Kd.int .u8) W ok A3 x.f3.length x.f3∧x.f4.length≤c4∧Kd.F jc W ok A4 x.f4.length x.f4∧x.f5.length≤c5∧Kd.F fa W ok A5 x.f5.length x.f5:=by
  obtain⟨A3,c3,A4,c4,A5,c5,rfl,l3,_,l4,_,l5,_⟩:=nQ (Kd.lv h);exact⟨A3,c3,A4,c4,A5,c5,rfl,l3,(fun W' hW=>by obtain⟨A3_,c3_,A4_,c4_,A5_,c5_,he,l3_,g3_,l4_,g4_,l5_,g5_⟩:=nQ (h W' hW);injection (Option.some.inj (show some (Value.slice A3 x.f3.length c3)=some (Value.slice A3_ x.f3.length c3_)from congrArg (fun l=>l[3]?) he))with ha_ _ _;rw[ha_];exact g3_),l4,(fun W' hW=>by obtain⟨A3_,c3_,A4_,c4_,A5_,c5_,he,l3_,g3_,l4_,g4_,l5_,g5_⟩:=nQ (h W' hW);injection (Option.some.inj (show some (Value.slice A4 x.f4.length c4)=some (Value.slice A4_ x.f4.length c4_)from congrArg (fun l=>l[4]?) he))with ha_ _ _;rw[ha_];exact g4_),l5,(fun W' hW=>by obtain⟨A3_,c3_,A4_,c4_,A5_,c5_,he,l3_,g3_,l4_,g4_,l5_,g5_⟩:=nQ (h W' hW);injection (Option.some.inj (show some (Value.slice A5 x.f5.length c5)=some (Value.slice A5_ x.f5.length c5_)from congrArg (fun l=>l[5]?) he))with ha_ _ _;rw[ha_];exact g5_)⟩
theorem tq (W:World) (ok:Nat→Prop) (x:bm) {A3:Option Addr}{c3:Nat}(l3:x.f3.length≤c3) (g3:Kd.F (Kd.int .u8) W ok A3 x.f3.length x.f3) {A4:Option Addr}{c4:Nat}(l4:x.f4.length≤c4) (g4:Kd.F jc W ok A4 x.f4.length x.f4) {A5:Option Addr}{c5:Nat}(l5:x.f5.length≤c5) (g5:Kd.F fa W ok A5 x.f5.length x.f5):Kd.FK fN W ok x [.int .i64 x.f0,.int .i64 x.f1,.int .i64 x.f2,.slice A3 x.f3.length c3,.slice A4 x.f4.length c4,.slice A5 x.f5.length c5]:=fun W2 hW=>ac7 W2 x l3 (g3 W2 hW) l4 (g4 W2 hW) l5 (g5 W2 hW)
def af (xs:List bm) (i:Int):bm:=xs.getD i.toNat z58
theorem fI {w:World}{A:Option Addr}{n:Nat}{xs:List bm}(h:Kd.C fN w A n xs) (i:Int) (h0:0≤i) (h1:i<n):∃ad A3 c3 A4 c4 A5 c5,A=some ad∧w.cell? (ad.add (i.toNat*6))=some (.int .i64 (af xs i).f0)∧w.cell? ⟨(ad.add (i.toNat*6)).block,(ad.add (i.toNat*6)).off+1,none⟩=some (.int .i64 (af xs i).f1)∧w.cell? ⟨(ad.add (i.toNat*6)).block,(ad.add (i.toNat*6)).off+2,none⟩=some (.int .i64 (af xs i).f2)∧w.cell? ⟨(ad.add (i.toNat*6)).block,(ad.add (i.toNat*6)).off+3,none⟩=some (.slice A3 (af xs i).f3.length c3)∧w.cell? ⟨(ad.add (i.toNat*6)).block,(ad.add (i.toNat*6)).off+4,none⟩=some (.slice A4 (af xs i).f4.length c4)∧w.cell? ⟨(ad.add (i.toNat*6)).block,(ad.add (i.toNat*6)).off+5,none⟩=some (.slice A5 (af xs i).f5.length c5)∧(af xs i).f3.length≤c3∧(Kd.int .u8).C w A3 (af xs i).f3.length (af xs i).f3∧(af xs i).f4.length≤c4∧jc.C w A4 (af xs i).f4.length (af xs i).f4∧(af xs i).f5.length≤c5∧fa.C w A5 (af xs i).f5.length (af xs i).f5:=by
  obtain⟨ad,c,e,_,hK,hc0⟩:=Kd.oV h z58 i h0 h1;have hc:∀j u,c[j]? =some u→w.cell? (ad.add (i.toNat*6+j))=some u:=hc0;obtain⟨A3,c3,A4,c4,A5,c5,rfl,l3,g3,l4,g4,l5,g5⟩:=nQ hK;exact⟨ad,A3,c3,A4,c4,A5,c5,e,hc 0 _ rfl,by rw[←gf _ _ 1 (by omega)];exact hc 1 _ rfl,by rw[←gf _ _ 2 (by omega)];exact hc 2 _ rfl,by rw[←gf _ _ 3 (by omega)];exact hc 3 _ rfl,by rw[←gf _ _ 4 (by omega)];exact hc 4 _ rfl,by rw[←gf _ _ 5 (by omega)];exact hc 5 _ rfl,l3,g3,l4,g4,l5,g5⟩
theorem fw {w W:World}{A:Option Addr}{n:Nat}{xs:List bm}(h:ae (Kd.C fN w A n xs)) (hb:ae (Below w.heap.size w W)) (i:Int) (h0:0≤i) (h1:i<n):∃ad A3 c3 A4 c4 A5 c5,A=some ad∧W.cell? (ad.add (i.toNat*6))=some (.int .i64 (af xs i).f0)∧W.cell? ⟨(ad.add (i.toNat*6)).block,(ad.add (i.toNat*6)).off+1,none⟩=some (.int .i64 (af xs i).f1)∧W.cell? ⟨(ad.add (i.toNat*6)).block,(ad.add (i.toNat*6)).off+2,none⟩=some (.int .i64 (af xs i).f2)∧W.cell? ⟨(ad.add (i.toNat*6)).block,(ad.add (i.toNat*6)).off+3,none⟩=some (.slice A3 (af xs i).f3.length c3)∧W.cell? ⟨(ad.add (i.toNat*6)).block,(ad.add (i.toNat*6)).off+4,none⟩=some (.slice A4 (af xs i).f4.length c4)∧W.cell? ⟨(ad.add (i.toNat*6)).block,(ad.add (i.toNat*6)).off+5,none⟩=some (.slice A5 (af xs i).f5.length c5)∧ae ((af xs i).f3.length≤c3)∧ae ((Kd.int .u8).C w A3 (af xs i).f3.length (af xs i).f3)∧ae ((af xs i).f4.length≤c4)∧ae (jc.C w A4 (af xs i).f4.length (af xs i).f4)∧ae ((af xs i).f5.length≤c5)∧ae (fa.C w A5 (af xs i).f5.length (af xs i).f5):=by
  obtain⟨ad,A3,c3,A4,c4,A5,c5,h0_,h1_,h2_,h3_,h4_,h5_,h6_,h7_,h8_,h9_,ac4,ac5,ac6⟩:=fI h.out i h0 h1;exact⟨ad,A3,c3,A4,c4,A5,c5,h0_,cB hb h1_,cB hb h2_,cB hb h3_,cB hb h4_,cB hb h5_,cB hb h6_,⟨h7_⟩,⟨h8_⟩,⟨h9_⟩,⟨ac4⟩,⟨ac5⟩,⟨ac6⟩⟩

/-! #### struct type 24 -/
structure S24 where
  f0:(List nc)
  f1:Int
def k24:Kd S24:=Kd.iso (Kd.pair (Kd.slice 92 k92) (Kd.int .i64)) (fun x:S24=>(x.f0,x.f1))
theorem aaa {w:World}{x:S24}{cs:List Value}(h:k24.K w x cs):∃A0 c0,cs=[.slice A0 x.f0.length c0,.int .i64 x.f1]∧x.f0.length≤c0∧k92.C w A0 x.f0.length x.f0:=by
  obtain⟨_,_,rfl,⟨A0,c0,rfl,l0,g0⟩,rfl⟩:=h;exact⟨A0,c0,rfl,l0,g0⟩
end Go.Proofs.YtlecajlnjmbilaaGreatDoor.P
