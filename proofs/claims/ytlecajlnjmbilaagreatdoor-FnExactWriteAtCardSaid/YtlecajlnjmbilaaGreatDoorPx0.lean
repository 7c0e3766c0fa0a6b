-- Printed walks.
import Derived.Laws.Cover1
import Derived.WalkSpells
import Derived.Test.YtlecajlnjmbilaaGreatDoorSh
import Derived.Sort.OwnSortedInts
import Derived.Lib.Overlaps
import Derived.Lib.AppendZerosOnto
import Derived.Laws.NewBlocks
import Derived.Shelf.RegionOpenPlain
import Derived.Test.YtlecajlnjmbilaaGreatDoorSh
import Derived.Test.YtlecajlnjmbilaaGreatDoorWFour
import Derived.Test.YtlecajlnjmbilaaGreatDoorWAt
import Derived.Test.YtlecajlnjmbilaaGreatDoorWEqStruct
import Derived.Test.YtlecajlnjmbilaaGreatDoorWRepsOne
import Derived.Test.YtlecajlnjmbilaaGreatDoorWInvWords
import Derived.Test.YtlecajlnjmbilaaGreatDoorWGuard
import Derived.Test.YtlecajlnjmbilaaGreatDoorWMore
set_option linter.all false
namespace Go.Proofs.YtlecajlnjmbilaaGreatDoor.P
open Go.RowKit Go.Proofs.ae.au Go.Proofs.ae.ba Go.Proofs.ae.bg
attribute [local go_sem] gh gi iR iS ft fu gj gl

theorem oa {p:Prop} [Decidable p] (h:decide p=true:=by first|(with_reducible assumption)|assumption):p:=of_decide_eq_true h
theorem oD {p:Prop}(h:p:=by repeat(first|exact eX.refl _|apply eX.step)):p:=h
theorem oE {p:Prop}(h:p:=by first|rfl|(simp[eU,eV]<;>rfl)|(simp[*,eU,eV]<;>rfl)):p:=h
theorem oL {p:Prop}(h:p:=by(try simp only[List.map_toArray,List.map_cons,List.map_nil]);first|done|rfl|(simp only[List.length_drop,List.length_take];rfl)):p:=h
theorem oS {p:Prop}(h:p:=by first|rfl|(simp;done)|(simp[*];done)):p:=h
theorem bA {α β:Type}{x:Option α}{f:α→Option β}{r:β}(h:x.bind f=some r):∃a,ab (x=some a)∧f a=some r:=by
  obtain⟨a,h1,h2⟩:=Option.bind_eq_some_iff.mp h;exact⟨a,⟨h1⟩,h2⟩
theorem ll {α:Type}{b:Bool}{x y:Option α}{r:α}(h:(if b=true then x else y)=some r):(b=true∧x=some r)∨(b=false∧y=some r):=by
  cases b
  · exact .inr ⟨rfl,by simpa using h⟩
  · exact .inl ⟨rfl,by simpa using h⟩
theorem iH {α:Type}{p:Prop} [d:Decidable p] {x y:Option α}{r:α}(h:(if p then x else y)=some r):(decide p=true∧x=some r)∨(decide p=false∧y=some r):=by
  by_cases c:p
  · exact .inl ⟨decide_eq_true c,by rwa [if_pos c]at h⟩
  · exact .inr ⟨decide_eq_false c,by rwa [if_neg c]at h⟩
theorem itG {α:Type}{a b:Int}{x y:Option α}{r:α}(h:(if a>b then x else y)=some r):(decide (b<a)=true∧x=some r)∨(decide (b<a)=false∧y=some r):=iH h
theorem itH {α:Type}{a b:Int}{x y:Option α}{r:α}(h:(if a≥b then x else y)=some r):(decide (b≤a)=true∧x=some r)∨(decide (b≤a)=false∧y=some r):=iH h
theorem bs_ {w W:World}{g j:Nat}{v:Value}(h:Below w.heap.size w W) (hg:ab (w.heap.size≤g)):Below w.heap.size w (W.setCell ⟨g,j,none⟩ v):=aG h hg.out
theorem oB {p:Prop}(h:p:=by repeat(first|(with_reducible first|exact HB.out|apply aN|apply aJ|apply ar|refine bs_ ?_ (by with_reducible assumption))|exact HB.out)):p:=h
theorem oQ {p:Prop}(h:p:=by first|exact⟨rfl,_,World.drewN_drewN _ _ _⟩|exact⟨rfl,_,Eq.trans (World.drewN_drewN _ _ _) (congrArg (World.drewN _) (Nat.add_assoc _ _ _))⟩):p:=h
theorem cB {w W:World}{a:Addr}{v:Value}(hB:ab (Below w.heap.size w W)) (h:w.cell? a=some v):W.cell? a=some v:=(hB.out.cell (World.block_lt_of_cell? w _ h)).trans h
theorem oT {p:Prop} [Decidable p] (h:decide p=true:=by first|(with_reducible assumption)|assumption):p=True:=eq_true (of_decide_eq_true h)
theorem bc_ {w:World}{g i:Nat}{t:TypeId}{cs:Array Value}{v:Value}(h:ab (w.heap[g]? =some (.cells cs t (0,0)))) (e:cs[i]? =some v):w.cell? ⟨g,i,none⟩=some v:=(aq h.out i).trans e
theorem oH {p:Prop}(h:p:=by(repeat' (with_reducible refine And.intro ?_ ?_))<;>(first|exact cB HB (by with_reducible assumption)|(refine bc_ (by with_reducible assumption) ?_;rfl)|(refine bc_ (ab.mk (cg (ab.out (by with_reducible assumption)) _)) ?_;rfl))):p:=h
theorem ks_ {w W:World}{S:Nat→Prop}{g j:Nat}{v:Value}(h:Kept w W S) (hg:ab (w.heap.size≤g)):Kept w (W.setCell ⟨g,j,none⟩ v) S:=Kept.setCell h (.inr hg.out) v
theorem oK {w W:World}{S:Nat→Prop}(h:Kept w W S:=by repeat(first|(with_reducible first|exact HK.out|apply Kept.alloc|apply Kept.drewN|apply Kept.drew|refine ks_ ?_ (by with_reducible assumption))|exact HK.out)):Kept w W S:=h
theorem oF {g:Nat}{o:Obj}{w w1:World}(_:ab (w.heap[g]? =some o)) (hd:w1.heap[g]? =some o:=by(repeat(first|(with_reducible first|refine cg ?_ _|refine ao ?_|refine aD ?_ _)|refine dk ?_ (ab.out (by with_reducible assumption)) _));exact ab.out (by first|(with_reducible assumption)|assumption)):w1.heap[g]? =some o:=hd
theorem z1 {w:World}{g:Nat}{t:TypeId}{v0:Value}(h:ab (w.heap[g]? =some (.cells #[v0] t (0,0)))):w.cell? ⟨g,0,none⟩=some v0∧w.frozen? ⟨g,0,none⟩=false:=⟨(aq h.out 0).trans rfl,aH h.out 0⟩
theorem z2 {w:World}{g:Nat}{t:TypeId}{v0 v1:Value}(h:ab (w.heap[g]? =some (.cells #[v0,v1] t (0,0)))):(w.cell? ⟨g,0,none⟩=some v0∧w.cell? ⟨g,1,none⟩=some v1)∧w.frozen? ⟨g,0,none⟩=false∧w.frozen? ⟨g,1,none⟩=false:=⟨⟨(aq h.out 0).trans rfl,(aq h.out 1).trans rfl⟩,aH h.out 0,aH h.out 1⟩
theorem z3 {w:World}{g:Nat}{t:TypeId}{v0 v1 v2:Value}(h:ab (w.heap[g]? =some (.cells #[v0,v1,v2] t (0,0)))):(w.cell? ⟨g,0,none⟩=some v0∧w.cell? ⟨g,1,none⟩=some v1∧w.cell? ⟨g,2,none⟩=some v2)∧w.frozen? ⟨g,0,none⟩=false∧w.frozen? ⟨g,1,none⟩=false∧w.frozen? ⟨g,2,none⟩=false:=⟨⟨(aq h.out 0).trans rfl,(aq h.out 1).trans rfl,(aq h.out 2).trans rfl⟩,aH h.out 0,aH h.out 1,aH h.out 2⟩
theorem z4 {w:World}{g:Nat}{t:TypeId}{v0 v1 v2 v3:Value}(h:ab (w.heap[g]? =some (.cells #[v0,v1,v2,v3] t (0,0)))):(w.cell? ⟨g,0,none⟩=some v0∧w.cell? ⟨g,1,none⟩=some v1∧w.cell? ⟨g,2,none⟩=some v2∧w.cell? ⟨g,3,none⟩=some v3)∧w.frozen? ⟨g,0,none⟩=false∧w.frozen? ⟨g,1,none⟩=false∧w.frozen? ⟨g,2,none⟩=false∧w.frozen? ⟨g,3,none⟩=false:=⟨⟨(aq h.out 0).trans rfl,(aq h.out 1).trans rfl,(aq h.out 2).trans rfl,(aq h.out 3).trans rfl⟩,aH h.out 0,aH h.out 1,aH h.out 2,aH h.out 3⟩
theorem z5 {w:World}{g:Nat}{t:TypeId}{v0 v1 v2 v3 v4:Value}(h:ab (w.heap[g]? =some (.cells #[v0,v1,v2,v3,v4] t (0,0)))):(w.cell? ⟨g,0,none⟩=some v0∧w.cell? ⟨g,1,none⟩=some v1∧w.cell? ⟨g,2,none⟩=some v2∧w.cell? ⟨g,3,none⟩=some v3∧w.cell? ⟨g,4,none⟩=some v4)∧w.frozen? ⟨g,0,none⟩=false∧w.frozen? ⟨g,1,none⟩=false∧w.frozen? ⟨g,2,none⟩=false∧w.frozen? ⟨g,3,none⟩=false∧w.frozen? ⟨g,4,none⟩=false:=⟨⟨(aq h.out 0).trans rfl,(aq h.out 1).trans rfl,(aq h.out 2).trans rfl,(aq h.out 3).trans rfl,(aq h.out 4).trans rfl⟩,aH h.out 0,aH h.out 1,aH h.out 2,aH h.out 3,aH h.out 4⟩
theorem z6 {w:World}{g:Nat}{t:TypeId}{v0 v1 v2 v3 v4 v5:Value}(h:ab (w.heap[g]? =some (.cells #[v0,v1,v2,v3,v4,v5] t (0,0)))):(w.cell? ⟨g,0,none⟩=some v0∧w.cell? ⟨g,1,none⟩=some v1∧w.cell? ⟨g,2,none⟩=some v2∧w.cell? ⟨g,3,none⟩=some v3∧w.cell? ⟨g,4,none⟩=some v4∧w.cell? ⟨g,5,none⟩=some v5)∧w.frozen? ⟨g,0,none⟩=false∧w.frozen? ⟨g,1,none⟩=false∧w.frozen? ⟨g,2,none⟩=false∧w.frozen? ⟨g,3,none⟩=false∧w.frozen? ⟨g,4,none⟩=false∧w.frozen? ⟨g,5,none⟩=false:=⟨⟨(aq h.out 0).trans rfl,(aq h.out 1).trans rfl,(aq h.out 2).trans rfl,(aq h.out 3).trans rfl,(aq h.out 4).trans rfl,(aq h.out 5).trans rfl⟩,aH h.out 0,aH h.out 1,aH h.out 2,aH h.out 3,aH h.out 4,aH h.out 5⟩
theorem bn {g:Nat}{o:Obj}{w w1 w2:World}(_:ab (w.heap[g]? =some o)) (hb:Below w1.heap.size w1 w2) (hd:w1.heap[g]? =some o:=by(repeat(first|(with_reducible first|refine cg ?_ _|refine ao ?_|refine aD ?_ _)|refine dk ?_ (ab.out (by with_reducible assumption)) _));exact ab.out (by first|(with_reducible assumption)|assumption)):ab (w2.heap[g]? =some o):=⟨fh hd hb⟩
theorem eJ {g g':Nat}{o:Obj}{w w1:World}(hg:g'=w1.heap.size) (_:ab (w.heap[g]? =some o)) (hd:w1.heap[g]? =some o:=by(repeat(first|(with_reducible first|refine cg ?_ _|refine ao ?_|refine aD ?_ _)|refine dk ?_ (ab.out (by with_reducible assumption)) _));exact ab.out (by first|(with_reducible assumption)|assumption)):ab (g≠g'):=⟨by rw[hg];exact Nat.ne_of_lt (iA hd)⟩
theorem eK {g g':Nat}{o:Obj}{w w1:World}(hg:g'=w1.heap.size) (_:ab (w.heap[g]? =some o)) (hd:w1.heap[g]? =some o:=by(repeat(first|(with_reducible first|refine cg ?_ _|refine ao ?_|refine aD ?_ _)|refine dk ?_ (ab.out (by with_reducible assumption)) _));exact ab.out (by first|(with_reducible assumption)|assumption)):ab (g'≠g):=⟨by rw[hg];exact Nat.ne_of_gt (iA hd)⟩
theorem dh {g:Nat}{w W:World}(hg:g=W.heap.size) (h:Below w.heap.size w W:=by repeat(first|(with_reducible first|exact HB.out|apply aN|apply aJ|apply ar|refine bs_ ?_ (by with_reducible assumption))|exact HB.out)):ab (w.heap.size≤g):=⟨by rw[hg];exact ah h⟩
section
variable {P:Program}{ops:Array Oper}{Q:Exit→Act→World→Prop}{rest:List Oper}{oi:Oper}{a:Act}{w:World}
theorem eI (N:Tmp) {f:FuncId}{fn:Func}(hf:P.funcs[f]? =some fn) {args:Array Value}{R:Ending→World→Prop}{aa:Array Operand}{ts:Array TypeId}(h:Calls P f args w R) (hn:∀e w',R e w'→∃v,e= .returned v∧wpList P ops Q rest (a.put (some N) v) w')
    (hop:oi.op= .call {callee:= .value (.func f),args:=aa,argTypes:=ts}:=by exact rfl) (hargs:aa.map a.eval=args:=by(try simp only[List.map_toArray,List.map_cons,List.map_nil]);first|done|rfl|(simp only[List.length_drop,List.length_take];rfl)) (hd:oi.dst=some N:=by exact rfl) (hg:oi.guard=none:=by exact rfl) (hname:(fn.name== "runtime.NumGoroutine")=false:=by kernel_rfl) (hb:fn.body.isSome=true:=by exact rfl):wpList P ops Q (oi::rest) a w:=
  sE (some N) hd hg hf hname hb args hop hargs (h.mono hn)
theorem di {W:World}(N:Tmp) (cs:Array Value) (t:TypeId)
    (h:∀g,g=W.heap.size→∀w1,w1.heap[g]? =some (.cells cs t (0,0))→Below W.heap.size W w1→wpList P ops Q rest (a.put oi.dst (.pointer (some ⟨g,0,none⟩))) w1) (hgd:oi.guard=none:=by exact rfl) (hd:oi.dst=some N:=by exact rfl)
    (hrun:(execOp a.eval oi).run P W= .ok (.value (.pointer (some ⟨W.heap.size,0,none⟩))) (W.alloc (.cells cs t (0,0))):=by first|(go_simp;done)|(go_simp;rfl)):wpList P ops Q (oi::rest) a W:=sa hgd hd hrun h
end
section
variable {α:Type}{d:Kd α}{e base n:Nat}{ok okv:Nat→Prop}{w w1 w2:World}{A:Option Addr}{c:Nat}{u v:Value}{xs:List α}
theorem ke_ {β:Type}{d':Kd β}{e':Nat}{ys:List β}(_:ab (d.R e w base ok u xs)) (ho:d'.R e' w2 w1.heap.size okv v ys) (hb:Below w1.heap.size w1 w2) (hd:d.R e w1 base ok u xs:=by(with_reducible repeat(first|apply Kd.cu|apply Kd.cv|apply Kd.cz));exact ab.out (by first|(with_reducible assumption)|assumption)):ab (d.R e w2 base (fun k=>ok k∧some k≠v.ownBlock) u xs):=⟨Kd.aah hd (Kd.eB ho) hb⟩
theorem iI (_:ab (d.R e w base ok u xs)) (hb:Below w1.heap.size w1 w2) (hd:d.R e w1 base ok u xs:=by(with_reducible repeat(first|apply Kd.cu|apply Kd.cv|apply Kd.cz));exact ab.out (by first|(with_reducible assumption)|assumption)):ab (d.R e w2 base ok u xs):=⟨Kd.iq hd hb⟩
theorem kl_ (_:ab (d.R e w base ok u xs)) (hd:d.R e w1 base ok u xs:=by(with_reducible repeat(first|apply Kd.cu|apply Kd.cv|apply Kd.cz));exact ab.out (by first|(with_reducible assumption)|assumption)):∀k,u.ownBlock=some k→k<w1.heap.size:=Kd.abO hd
theorem oR (_:ab (d.R e w base ok u xs)) (hd:d.R e w1 base ok u xs:=by(with_reducible repeat(first|apply Kd.cu|apply Kd.cv|apply Kd.cz));exact ab.out (by first|(with_reducible assumption)|assumption)):d.R e w1 base ok u xs:=hd
theorem kC (h:ab (Kd.C d w A n xs)) (hb:Below w.heap.size w w1:=by repeat(first|(with_reducible first|exact HB.out|apply aN|apply aJ|apply ar|refine bs_ ?_ (by with_reducible assumption))|exact HB.out)):Kd.C d w1 A n xs:=Kd.eg h.out hb
theorem kO (_:ab (d.R e w base ok (.slice A n c) xs)) (hd:d.R e w1 base ok (.slice A n c) xs:=by(with_reducible repeat(first|apply Kd.cu|apply Kd.cv|apply Kd.cz));exact ab.out (by first|(with_reducible assumption)|assumption)):Kd.C d w1 A xs.length xs:=(Kd.bu hd).2.2
theorem ko (h:ab (d.R e w base ok (.slice A n c) xs)):n≤c:=(Kd.bu h.out).2.1
end
section
variable {P:Program}{ops:Array Oper}{Q:Exit→Act→World→Prop}{md:Region.Mode}{S:World→Prop}{ds:List Nat}{T:Bool×List (List Nat×List Nat)}{B:List Nat}
def lb (n m:Nat):Array Bool:=((List.range n).map fun i=>m.testBit i).toArray
theorem mq {id:Nat}{a:Act}{w:World}{T:Bool×List (List Nat×List Nat)}{B:List Nat}(n:Nat) (S:World→Prop) (hT:gf .any ops=T) (hB:eL T.2 B=true) (hS:S w.drew)
    (h:S w.drew→ab (gf .any ops=T)→ab (eL T.2 B=true)→bo P .any ops Q S [] n (lb n 0) a w.drew) (hm:P.follows .mixedOrders=true:=by kernel_rfl) (hn:ops.size=n:=by exact rfl) (hl:Array.replicate n false=lb n 0:=by exact rfl):(Code.region id ops true).wp P Q a w:=
  pJ (lb n 0) hm hn hl hS (fun hh=>h hh ⟨hT⟩ ⟨hB⟩)
theorem b_ {n m:Nat}(i:Nat) (N:Tmp) {oi:Oper}{v:Value}{fuel:Nat}{a a':Act}{w:World}(HT:ab (gf md ops=T)) (h:bo P md ops Q S ds fuel (lb n (m|||1<<<i)) a' w) (hi:ops[i]? =some oi:=by exact rfl) (hN:oi.dst=some N:=by exact rfl)
    (hc:abP T (lb n m).toList (lb n (m|||1<<<i)).toList i=true:=by kernel_rfl) (hQ:∀c a w,Q (.panic c) (a.put oi.dst v) w→Q (.panic c) a w:=by exact fun _ _ _ h=>h) (hg:Region.wanted oi (yielded ops a.tmps)=true:=by exact rfl) (hy:∀w,(execOp a.eval oi).run P w= .ok (.value v) w:=by intro w';go_simp;with_reducible rfl)
    (ha:a.put (some N) v=a':=by simp only[Act.put,List.setIfInBounds_toArray,List.set_cons_zero,List.set_cons_succ,fo,gy];rfl):bo P md ops Q S ds (fuel+1) (lb n m) a w:=aai _ hi hN (aaj HT.out hc) hQ (.inl ⟨hg,hy⟩) ha h
theorem fJ {n m:Nat}(i:Nat) (N:Tmp) {oi:Oper}{v:Value}{fuel:Nat}{a a':Act}{w:World}(HT:ab (gf md ops=T)) (HW:ab (eL T.2 B=true)) (hS:S w) (h:bo P md ops Q S ds fuel (lb n (m|||1<<<i)) a' w) (hi:ops[i]? =some oi:=by exact rfl) (hN:oi.dst=some N:=by exact rfl)
    (hc:aak T B ds (lb n m).toList (lb n (m|||1<<<i)).toList i=true:=by kernel_rfl) (hQ:∀c a w,Q (.panic c) (a.put oi.dst v) w→Q (.panic c) a w:=by exact fun _ _ _ h=>h) (hg:Region.wanted oi (yielded ops a.tmps)=true:=by exact rfl)
    (hy:∀w,S w→(execOp a.eval oi).run P w= .ok (.value v) w:=by intro w' hS_;(try dsimp only at hS_);(repeat(have s_:=And.left hS_;replace hS_:=And.right hS_));go_simp;with_reducible rfl)
    (ha:a.put (some N) v=a':=by simp only[Act.put,List.setIfInBounds_toArray,List.set_cons_zero,List.set_cons_succ,fo,gy];rfl):bo P md ops Q S ds (fuel+1) (lb n m) a w:=aal _ hi hN (aam HT.out HW.out hc) hQ (.inl ⟨hg,hy⟩) hS ha h
theorem kF {n m:Nat}(i:Nat) (N:Tmp) {oi:Oper}{fuel:Nat}{a:Act}{w:World}(HT:ab (gf md ops=T))
    (h:∀K:Act→World→Prop,Shut (∀a' w',S w'→(S w'→bo P md ops Q S ds fuel (lb n (m|||1<<<i)) a' w')→K a' w')→if Region.wanted oi (yielded ops a.tmps)=true then Oper.wp P oi a w K Q else K (a.put (some N) undef) w)
    (hi:ops[i]? =some oi:=by exact rfl) (hN:oi.dst=some N:=by exact rfl) (hc:(nK T.2 (lb n m).toList==[i]&&(lb n m).toList.set i true==(lb n (m|||1<<<i)).toList)=true:=by kernel_rfl) (hd:i∉ds:=by decide):bo P md ops Q S ds (fuel+1) (lb n m) a w:=
  acL _ hi hN (qN HT.out hc) hd h
theorem lX {n m:Nat}{fuel:Nat}{a:Act}{w:World}(HT:ab (gf md ops=T)) (h:Q .normal a w) (hr:(nK T.2 (lb n m).toList==[])=true:=by kernel_rfl):bo P md ops Q S ds fuel (lb n m) a w:=sd (abQ HT.out hr) h
theorem lU (N:Tmp) {oi:Oper}{a:Act}{w:World}{K:Act→World→Prop}{f:FuncId}{fn:Func}(hf:P.funcs[f]? =some fn) {args:Array Value}{R:Ending→World→Prop}{aa:Array Operand}{ts:Array TypeId}(h:Calls P f args w R)
    (hn:∀e w',R e w'→∃v,e= .returned v∧K (a.put (some N) v) w') (hop:oi.op= .call {callee:= .value (.func f),args:=aa,argTypes:=ts}:=by exact rfl) (hargs:aa.map a.eval=args:=by(try simp only[List.map_toArray,List.map_cons,List.map_nil]);first|done|rfl|(simp only[List.length_drop,List.length_take];rfl)) (hw:Region.wanted oi (yielded ops a.tmps)=true:=by exact rfl) (hd:oi.dst=some N:=by exact rfl)
    (hname:(fn.name== "runtime.NumGoroutine")=false:=by kernel_rfl) (hb:fn.body.isSome=true:=by exact rfl):
    if Region.wanted oi (yielded ops a.tmps)=true then Oper.wp P oi a w K Q else K (a.put (some N) undef) w:=tF hf hname hb args hw hd hop hargs (h.mono hn)
theorem fV {K W:Act→World→Prop}{S:World→Prop}(hK:Shut (∀a w,S w→(S w→W a w)→K a w)) (N:Tmp) {a a':Act}{v:Value}{w:World}(hS:S w) (h:S w→W a' w) (ha:a.put (some N) v=a':=by simp only[Act.put,List.setIfInBounds_toArray,List.set_cons_zero,List.set_cons_succ,fo,gy];rfl):K (a.put (some N) v) w:=by
  rw[ha];exact hK.out _ _ hS h
end

theorem oP {g:Nat}{cs cs':Array Value}{t:TypeId}{w w1:World}(_:ab (w.heap[g]? =some (.cells cs t (0,0)))) (hd:w1.heap[g]? =some (.cells cs' t (0,0)):=by(repeat(first|(with_reducible first|refine cg ?_ _|refine ao ?_|refine aD ?_ _)|(apply dk;rotate_left;exact ab.out (by with_reducible assumption);rotate_right)|apply iu));(first|exact ab.out (by with_reducible assumption)|exact ab.out (by assumption));(all_goals exact rfl)):w1.heap[g]? =some (.cells cs' t (0,0)):=hd
theorem uM {g:Nat}{cs:Array Value}{t:TypeId}{w w1 w2:World}(cs':Array Value) (_:ab (w.heap[g]? =some (.cells cs t (0,0)))) (hb:Below w1.heap.size w1 w2) (hd:w1.heap[g]? =some (.cells cs' t (0,0)):=by(repeat(first|(with_reducible first|refine cg ?_ _|refine ao ?_|refine aD ?_ _)|(apply dk;rotate_left;exact ab.out (by with_reducible assumption);rotate_right)|apply iu));(first|exact ab.out (by with_reducible assumption)|exact ab.out (by assumption));(all_goals exact rfl)):ab (w2.heap[g]? =some (.cells cs' t (0,0))):=⟨fh hd hb⟩
theorem sF {g:Nat}{o:Obj}{w w1 w2:World}(hW:w1=w2) (_:ab (w.heap[g]? =some o)) (hd:w1.heap[g]? =some o:=by(repeat(first|(with_reducible first|refine cg ?_ _|refine ao ?_|refine aD ?_ _)|refine dk ?_ (ab.out (by with_reducible assumption)) _));exact ab.out (by first|(with_reducible assumption)|assumption)):ab (w2.heap[g]? =some o):=⟨hW▸hd⟩
theorem wi {g:Nat}{cs:Array Value}{t:TypeId}{w w1 w2:World}(cs':Array Value) (hW:w1=w2) (_:ab (w.heap[g]? =some (.cells cs t (0,0)))) (hd:w1.heap[g]? =some (.cells cs' t (0,0)):=by(repeat(first|(with_reducible first|refine cg ?_ _|refine ao ?_|refine aD ?_ _)|(apply dk;rotate_left;exact ab.out (by with_reducible assumption);rotate_right)|apply iu));(first|exact ab.out (by with_reducible assumption)|exact ab.out (by assumption));(all_goals exact rfl)):ab (w2.heap[g]? =some (.cells cs' t (0,0))):=⟨hW▸hd⟩
theorem tG {w w0 w1 w2:World}(hW:w1=w2) (_:ab (Below w.heap.size w w0)) (hd:Below w.heap.size w w1:=by repeat(first|(with_reducible first|exact HB.out|apply aN|apply aJ|apply ar|refine bs_ ?_ (by with_reducible assumption))|exact HB.out)):ab (Below w.heap.size w w2):=⟨hW▸hd⟩
section
variable {P:Program}{ops:Array Oper}{Q:Exit→Act→World→Prop}{md:Region.Mode}{S:World→Prop}{ds:List Nat}{T:Bool×List (List Nat×List Nat)}{B:List Nat}
theorem fz {n m:Nat}(i:Nat) (N:Tmp) {oi:Oper}{fuel:Nat}{a a':Act}{w:World}(HT:ab (gf md ops=T)) (h:bo P md ops Q S ds fuel (lb n (m|||1<<<i)) a' w) (hi:ops[i]? =some oi:=by exact rfl) (hN:oi.dst=some N:=by exact rfl)
    (hc:abP T (lb n m).toList (lb n (m|||1<<<i)).toList i=true:=by kernel_rfl) (hQ:∀c a w,Q (.panic c) (a.put oi.dst undef) w→Q (.panic c) a w:=by exact fun _ _ _ h=>h) (hg:Region.wanted oi (yielded ops a.tmps)=false:=by exact rfl)
    (ha:a.put (some N) undef=a':=by simp only[Act.put,List.setIfInBounds_toArray,List.set_cons_zero,List.set_cons_succ,fo,gy];rfl):bo P md ops Q S ds (fuel+1) (lb n m) a w:=aai _ hi hN (aaj HT.out hc) hQ (.inr ⟨hg,rfl⟩) ha h
theorem uN {n m:Nat}(i:Nat) (N:Tmp) {oi:Oper}{v:Value}{fuel:Nat}{a a':Act}{w:World}(h:bo P md ops Q S ds fuel (lb n (m|||1<<<i)) a' w) (hi:ops[i]? =some oi:=by exact rfl) (hN:oi.dst=some N:=by exact rfl)
    (hc:aan md ops (lb n m) (lb n (m|||1<<<i)) i=true:=by kernel_rfl) (hQ:∀c a w,Q (.panic c) (a.put oi.dst v) w→Q (.panic c) a w:=by exact fun _ _ _ h=>h) (hg:Region.wanted oi (yielded ops a.tmps)=true:=by exact rfl) (hy:∀w,(execOp a.eval oi).run P w= .ok (.value v) w:=by intro w';go_simp;with_reducible rfl)
    (ha:a.put (some N) v=a':=by simp only[Act.put,List.setIfInBounds_toArray,List.set_cons_zero,List.set_cons_succ,fo,gy];rfl):bo P md ops Q S ds (fuel+1) (lb n m) a w:=aai _ hi hN hc hQ (.inl ⟨hg,hy⟩) ha h
theorem wj {n m:Nat}(i:Nat) (N:Tmp) {oi:Oper}{v:Value}{fuel:Nat}{a a':Act}{w:World}(hS:S w) (h:bo P md ops Q S ds fuel (lb n (m|||1<<<i)) a' w) (hi:ops[i]? =some oi:=by exact rfl) (hN:oi.dst=some N:=by exact rfl)
    (hc:takeB md ops ds (lb n m) (lb n (m|||1<<<i)) i=true:=by kernel_rfl) (hQ:∀c a w,Q (.panic c) (a.put oi.dst v) w→Q (.panic c) a w:=by exact fun _ _ _ h=>h) (hg:Region.wanted oi (yielded ops a.tmps)=true:=by exact rfl)
    (hy:∀w,S w→(execOp a.eval oi).run P w= .ok (.value v) w:=by intro w' hS_;(try dsimp only at hS_);(repeat(have s_:=And.left hS_;replace hS_:=And.right hS_));go_simp;with_reducible rfl)
    (ha:a.put (some N) v=a':=by simp only[Act.put,List.setIfInBounds_toArray,List.set_cons_zero,List.set_cons_succ,fo,gy];rfl):bo P md ops Q S ds (fuel+1) (lb n m) a w:=aal _ hi hN hc hQ (.inl ⟨hg,hy⟩) hS ha h
theorem o0_ {n m:Nat}(i:Nat) (N:Tmp) {oi:Oper}{fuel:Nat}{a:Act}{w:World}
    (h:∀K:Act→World→Prop,Shut (∀a' w',S w'→(S w'→bo P md ops Q S ds fuel (lb n (m|||1<<<i)) a' w')→K a' w')→if Region.wanted oi (yielded ops a.tmps)=true then Oper.wp P oi a w K Q else K (a.put (some N) undef) w)
    (hi:ops[i]? =some oi:=by exact rfl) (hN:oi.dst=some N:=by exact rfl) (hc:oJ md ops (lb n m) (lb n (m|||1<<<i)) i=true:=by kernel_rfl) (hd:i∉ds:=by decide):bo P md ops Q S ds (fuel+1) (lb n m) a w:=acL _ hi hN hc hd h
theorem s0_ {id:Nat}{a:Act}{w:World}(n:Nat) (S:World→Prop) (hS:S w.drew) (h:S w.drew→bo P .any ops Q S [] n (lb n 0) a w.drew) (hm:P.follows .mixedOrders=true:=by kernel_rfl) (hn:ops.size=n:=by exact rfl) (hl:Array.replicate n false=lb n 0:=by exact rfl):(Code.region id ops true).wp P Q a w:=
  pJ (lb n 0) hm hn hl hS h
end

section
variable {α:Type}{d:Kd α}{e base n g t g2 t2:Nat}{ok:Nat→Prop}{cs cs2:Array Value}{w w1 w2:World}{A:Option Addr}{c:Nat}{u v:Value}{xs:List α}
theorem wP {j:Nat}(h:Kd.R d e w base (fun k=>ok k∧k≠g) u xs):Kd.R d e (w.setCell ⟨g,j,none⟩ v) base (fun k=>ok k∧k≠g) u xs:=Kd.dm h (fun _ hk=>hk.2) v
theorem aeg {j:Nat}(h:Kd.R d e w base (fun k=>(ok k∧k≠g)∧k≠g2) u xs):Kd.R d e (w.setCell ⟨g2,j,none⟩ v) base (fun k=>(ok k∧k≠g)∧k≠g2) u xs:=Kd.dm h (fun _ hk=>hk.2) v
theorem aeh {j:Nat}(h:Kd.R d e w base (fun k=>(ok k∧k≠g)∧k≠g2) u xs):Kd.R d e (w.setCell ⟨g,j,none⟩ v) base (fun k=>(ok k∧k≠g)∧k≠g2) u xs:=Kd.dm h (fun _ hk=>hk.1.2) v
theorem uO (h:ab (Kd.R d e w base ok u xs)) (hd:Kd.R d e w base ok u xs→Kd.R d e w1 base ok u xs:=by intro h_;(repeat(first|(with_reducible first|exact h_|apply Kd.cu|apply Kd.cv|apply Kd.cz)))):Kd.R d e w1 base ok u xs:=(hd h.out)
theorem nc (h:ab (Kd.R d e w base ok u xs)) (hb:Below w1.heap.size w1 w2) (hd:Kd.R d e w base ok u xs→Kd.R d e w1 base ok u xs:=by intro h_;(repeat(first|(with_reducible first|exact h_|apply Kd.cu|apply Kd.cv|apply Kd.cz)))):ab (Kd.R d e w2 base ok u xs):=⟨Kd.iq (hd h.out) hb⟩
theorem nR1 (h:ab (Kd.R d e w base ok u xs)) (b:ab (w.heap[g]? =some (.cells cs t (0,0)))) (ht:∀q,q∈e::d.E→q≠t:=by decide) (hd:Kd.R d e w base (fun k=>ok k∧k≠g) u xs→Kd.R d e w1 base (fun k=>ok k∧k≠g) u xs:=by intro h_;(repeat(first|(with_reducible first|exact h_|apply Kd.cu|apply Kd.cv|apply Kd.cz)|apply wP))):Kd.R d e w1 base ok u xs:=(Kd.bm (hd (Kd.aI h.out b.out ht)) (fun _ h_=>h_.1))
theorem aei (h:ab (Kd.R d e w base ok u xs)) (b:ab (w.heap[g]? =some (.cells cs t (0,0)))) (ht:∀q,q∈e::d.E→q≠t:=by decide) (hd:Kd.R d e w base (fun k=>ok k∧k≠g) u xs→Kd.R d e w1 base (fun k=>ok k∧k≠g) u xs:=by intro h_;(repeat(first|(with_reducible first|exact h_|apply Kd.cu|apply Kd.cv|apply Kd.cz)|apply wP))):∀k,u.ownBlock=some k→k<w1.heap.size:=Kd.abO (Kd.bm (hd (Kd.aI h.out b.out ht)) (fun _ h_=>h_.1))
theorem nf (h:ab (Kd.R d e w base ok u xs)) (b:ab (w.heap[g]? =some (.cells cs t (0,0)))) (hb:Below w1.heap.size w1 w2) (ht:∀q,q∈e::d.E→q≠t:=by decide) (hd:Kd.R d e w base (fun k=>ok k∧k≠g) u xs→Kd.R d e w1 base (fun k=>ok k∧k≠g) u xs:=by intro h_;(repeat(first|(with_reducible first|exact h_|apply Kd.cu|apply Kd.cv|apply Kd.cz)|apply wP))):ab (Kd.R d e w2 base ok u xs):=⟨Kd.iq (Kd.bm (hd (Kd.aI h.out b.out ht)) (fun _ h_=>h_.1)) hb⟩
theorem uP (h:ab (Kd.R d e w base ok (.slice A n c) xs)) (b:ab (w.heap[g]? =some (.cells cs t (0,0)))) (ht:∀q,q∈e::d.E→q≠t:=by decide) (hd:Kd.R d e w base (fun k=>ok k∧k≠g) (.slice A n c) xs→Kd.R d e w1 base (fun k=>ok k∧k≠g) (.slice A n c) xs:=by intro h_;(repeat(first|(with_reducible first|exact h_|apply Kd.cu|apply Kd.cv|apply Kd.cz)|apply wP))):Kd.C d w1 A xs.length xs:=(Kd.bu (Kd.bm (hd (Kd.aI h.out b.out ht)) (fun _ h_=>h_.1))).2.2
theorem nR2 (h:ab (Kd.R d e w base ok u xs)) (g:Nat) (hm:∀k,ok k→k≠g) (hd:Kd.R d e w base (fun k=>ok k∧k≠g) u xs→Kd.R d e w1 base (fun k=>ok k∧k≠g) u xs:=by intro h_;(repeat(first|(with_reducible first|exact h_|apply Kd.cu|apply Kd.cv|apply Kd.cz)|apply wP))):Kd.R d e w1 base ok u xs:=(Kd.bm (hd (Kd.bm h.out (fun _ hk=>⟨hk,hm _ hk⟩))) (fun _ h_=>h_.1))
theorem nS0 (h:ab (Kd.S d e w base ok u xs)) (hd:Kd.S d e w base ok u xs→Kd.S d e w1 base ok u xs:=by intro h_;(repeat(first|(with_reducible first|exact h_|apply Kd.fA|apply Kd.fR|apply Kd.gm)))):Kd.S d e w1 base ok u xs:=(hd h.out)
theorem aej (h:ab (Kd.S d e w base ok u xs)) (hb:Below w1.heap.size w1 w2) (hd:Kd.S d e w base ok u xs→Kd.S d e w1 base ok u xs:=by intro h_;(repeat(first|(with_reducible first|exact h_|apply Kd.fA|apply Kd.fR|apply Kd.gm)))):ab (Kd.S d e w2 base ok u xs):=⟨Kd.gz (hd h.out) hb⟩
theorem acM (h:ab (Kd.S d e w base ok u xs)) (hb:Below w1.heap.size w1 w2) (hd:Kd.S d e w base ok u xs→Kd.S d e w1 base ok u xs:=by intro h_;(repeat(first|(with_reducible first|exact h_|apply Kd.fA|apply Kd.fR|apply Kd.gm)))):Kd.S d e w2 base (fun k=>ok k∧k<w1.heap.size) u xs:=Kd.adC (hd h.out) hb
theorem acN {v1 v2 v3:Value}(h:Kd.S d e w1 base (fun k=>ok k∧k<n) u xs) (h1:∀k,v1.ownBlock=some k→n≤k) (h2:∀k,v2.ownBlock=some k→n≤k) (h3:∀k,v3.ownBlock=some k→n≤k):ab (Kd.S d e w1 base (fun k=>(((ok k∧some k≠v1.ownBlock)∧some k≠v2.ownBlock)∧some k≠v3.ownBlock)) u xs):=⟨Kd.eY (Kd.uQ (Kd.uQ (Kd.uQ h h1) h2) h3) (fun _ h_=>h_.1)⟩
theorem adD {j:Nat}(h:Kd.Q d e w base (fun k=>ok k∧k≠g) u xs):Kd.Q d e (w.setCell ⟨g,j,none⟩ v) base (fun k=>ok k∧k≠g) u xs:=Kd.pf h (fun _ hk=>hk.2) v
theorem adE (h:ab (Kd.Q d e w base ok u xs)) (hd:Kd.Q d e w base ok u xs→Kd.Q d e w1 base ok u xs:=by intro h_;(repeat(first|(with_reducible first|exact h_|apply Kd.g_|apply Kd.hI|apply Kd.jk)))):∀k,u.ownBlock=some k→k<w1.heap.size:=Kd.aek (hd h.out)
theorem qO (h:ab (Kd.Q d e w base ok u xs)) (hb:Below w1.heap.size w1 w2) (hd:Kd.Q d e w base ok u xs→Kd.Q d e w1 base ok u xs:=by intro h_;(repeat(first|(with_reducible first|exact h_|apply Kd.g_|apply Kd.hI|apply Kd.jk)))):ab (Kd.Q d e w2 base ok u xs):=⟨Kd.pg (hd h.out) hb⟩
theorem nQ1 (h:ab (Kd.Q d e w base ok u xs)) (b:ab (w.heap[g]? =some (.cells cs t (0,0)))) (ht:∀q,q∈e::d.E→q≠t:=by decide) (hd:Kd.Q d e w base (fun k=>ok k∧k≠g) u xs→Kd.Q d e w1 base (fun k=>ok k∧k≠g) u xs:=by intro h_;(repeat(first|(with_reducible first|exact h_|apply Kd.g_|apply Kd.hI|apply Kd.jk)|apply adD))):Kd.Q d e w1 base ok u xs:=(Kd.lM (hd (Kd.qC h.out b.out ht)) (fun _ h_=>h_.1))
theorem acO (h:ab (Kd.Q d e w base ok u xs)) (b:ab (w.heap[g]? =some (.cells cs t (0,0)))) (hb:Below w1.heap.size w1 w2) (ht:∀q,q∈e::d.E→q≠t:=by decide) (hd:Kd.Q d e w base (fun k=>ok k∧k≠g) u xs→Kd.Q d e w1 base (fun k=>ok k∧k≠g) u xs:=by intro h_;(repeat(first|(with_reducible first|exact h_|apply Kd.g_|apply Kd.hI|apply Kd.jk)|apply adD))):ab (Kd.Q d e w2 base ok u xs):=⟨Kd.pg (Kd.lM (hd (Kd.qC h.out b.out ht)) (fun _ h_=>h_.1)) hb⟩
theorem qD {a:Addr}{v:Value}{b g:Nat}(h:w.cell? a=some v) (hG:ab (w.heap.size≤g)) (he:a.block=b:=by first|exact add_block _ _|rfl):b≠g:=he▸Nat.ne_of_lt (Nat.lt_of_lt_of_le (World.block_lt_of_cell? _ _ h) hG.out)
theorem lG {a:Addr}{v:Value}{b g:Nat}(j:Nat) (u:Value) (hn:b≠g) (h:w.cell? a=some v) (he:a.block=b:=by first|exact add_block _ _|rfl):(w.setCell ⟨g,j,none⟩ u).cell? a=some v:=(cell_far (p:=⟨g,j,none⟩) (he▸hn) u).trans h
end

section
variable {α:Type}{d:Kd α}{e base n g gb:Nat}{ok:Nat→Prop}{o:Obj}{w w0 W0 W W2:World}{A:Option Addr}{c:Nat}{u v:Value}{xs:List α}{row:Option Nat}
theorem mR (h:ab (Kd.R d e w base ok u xs)) (hd:Kd.R d e w base ok u xs→Kd.R d e W base ok u xs:=by intro h_;(repeat(first|(with_reducible first|exact h_|apply Kd.cu|apply Kd.cv|apply Kd.cz)))):Kd.R d e W base (fun _=>True) u xs:=Kd.bm (hd h.out) (fun _ _=>trivial)
theorem hB (_:ab (Below w.heap.size w W0)) (hb:Below W.heap.size W W2) (h:Below w.heap.size w W:=by repeat(first|(with_reducible first|exact HB.out|apply aN|apply aJ|apply ar|refine bs_ ?_ (by with_reducible assumption))|exact HB.out)):ab (Below w.heap.size w W2):=⟨fw h hb⟩
theorem fB {k:Nat}(_:ab (w.heap[gb]? =some o)) (hk:W.heap.size≤k) (hd:W.heap[gb]? =some o:=by(repeat(first|(with_reducible first|refine cg ?_ _|refine ao ?_|refine aD ?_ _)|refine dk ?_ (ab.out (by with_reducible assumption)) _));exact ab.out (by first|(with_reducible assumption)|assumption)):k≠gb:=Kd.eM hd k hk
theorem lA (_:ab (w.heap[gb]? =some o)) (hg:W.grownBy W2 row) (hne:some gb≠row) (hd:W.heap[gb]? =some o:=by(repeat(first|(with_reducible first|refine cg ?_ _|refine ao ?_|refine aD ?_ _)|refine dk ?_ (ab.out (by with_reducible assumption)) _));exact ab.out (by first|(with_reducible assumption)|assumption)):ab (W2.heap[gb]? =some o):=⟨kL hd hg hne⟩
theorem bp_ {cs:Array Value}{t:TypeId}(cs':Array Value) (_:ab (w.heap[gb]? =some (.cells cs t (0,0)))) (hg:W.grownBy W2 row) (hne:some gb≠row) (hd:W.heap[gb]? =some (.cells cs' t (0,0)):=by(repeat(first|(with_reducible first|refine cg ?_ _|refine ao ?_|refine aD ?_ _)|(apply dk;rotate_left;exact ab.out (by with_reducible assumption);rotate_right)|apply iu));(first|exact ab.out (by with_reducible assumption)|exact ab.out (by assumption));(all_goals exact rfl)):ab (W2.heap[gb]? =some (.cells cs' t (0,0))):=⟨kL hd hg hne⟩
theorem wQ {cs:Array Value}{t:TypeId}{w1:World}(h:ab (Kd.R d e w base ok u xs)) (b:ab (w.heap[g]? =some (.cells cs t (0,0)))) (ht:∀q,q∈e::d.E→q≠t:=by decide) (hd:Kd.R d e w base (fun k=>ok k∧k≠g) u xs→Kd.R d e w1 base (fun k=>ok k∧k≠g) u xs:=by intro h_;(repeat(first|(with_reducible first|exact h_|apply Kd.cu|apply Kd.cv|apply Kd.cz|apply wP)))):Kd.R d e w1 base (fun _=>True) u xs:=Kd.bm (hd (Kd.aI h.out b.out ht)) (fun _ _=>trivial)
theorem o_ {cs cs2:Array Value}{t t2 g2:Nat}{w1:World}(h:ab (Kd.R d e w base ok u xs)) (b:ab (w.heap[g]? =some (.cells cs t (0,0)))) (b2:ab (w.heap[g2]? =some (.cells cs2 t2 (0,0)))) (ht:∀q,q∈e::d.E→q≠t:=by decide) (ht2:∀q,q∈e::d.E→q≠t2:=by decide) (hd:Kd.R d e w base (fun k=>(ok k∧k≠g)∧k≠g2) u xs→Kd.R d e w1 base (fun k=>(ok k∧k≠g)∧k≠g2) u xs:=by intro h_;(repeat(first|(with_reducible first|exact h_|apply Kd.cu|apply Kd.cv|apply Kd.cz|apply aeg|apply aeh)))):Kd.R d e w1 base (fun _=>True) u xs:=Kd.bm (hd (Kd.aI (Kd.aI h.out b.out ht) b2.out ht2)) (fun _ _=>trivial)
theorem hk1 (_:ab (et w W0 g none)) (hb:Below W.heap.size W W2) (h:et w W g none:=by repeat(first|(with_reducible first|exact HK.out|apply et.adF|apply uR|apply wR|apply uS|refine aao ?_ (ab.out (by with_reducible assumption)) _)|exact HK.out)):ab (et w W2 g none):=⟨h.trans (et.of_below hb g none) (.inl rfl)⟩
end

theorem cU {α:Type}{p:Prop} [d:Decidable p] {x:Option α}{r:α}(h:(if p then x else none)=some r):decide p=true∧x=some r:=by
  rcases iH h with h|⟨_,h⟩
  · exact h
  · cases h
theorem lH {α:Type}{p:Prop} [d:Decidable p] {x:Option α}{r:α}(h:(if p then x else none)=some r):p∧x=some r:=⟨of_decide_eq_true (cU h).1,(cU h).2⟩
theorem am {p:Prop}(h:p):ab p:=⟨h⟩

theorem oY {p:Prop}(h:p:=by first|(rw[dn];with_reducible exact H)|(have H2_:=(Option.bind_some _ _).symm.trans H;rw[dn];with_reducible exact H2_)|(have H2_:=(Option.bind_some _ _).symm.trans H;with_reducible exact H2_)|with_reducible exact H|(rw[dn];exact H)|exact H):p:=h

theorem aab {w w':World}{cs:Array Value}{t:TypeId}(hb:Below (w.alloc (.cells cs t (0,0))).heap.size (w.alloc (.cells cs t (0,0))) w'):ab (w'.heap[w.heap.size]? =some (.cells cs t (0,0))):=⟨fh (ky _ _) hb⟩
theorem bold {w w':World}{o:Obj}(hb:Below (w.alloc o).heap.size (w.alloc o) w'):Below w.heap.size w w':=fw (aN (Below.refl _ _) o) hb
theorem ew {w w':World}{g:Nat}{o:Obj}(h:ab (w.heap[g]? =some o)) (hb:Below w.heap.size w w'):ab (w'.heap[g]? =some o):=⟨fh h.out hb⟩
theorem ael {w:World}{g:Nat}{o:Obj}(h:ab (w.heap[g]? =some o)) (o':Obj):ab ((w.alloc o').heap[g]? =some o):=⟨aD h.out o'⟩
theorem pe {w w':World}{g:Nat}{o:Obj}{S:Nat→Prop}(h:ab (w.heap[g]? =some o)) (hk:Kept w w' S) (hn:¬S g):ab (w'.heap[g]? =some o):=⟨tH h.out hk hn⟩
section
variable {α:Type}{d:Kd α}{e base n:Nat}{ok:Nat→Prop}{w w1:World}{A:Option Addr}{c:Nat}{v:Value}{xs:List α}
theorem rS (_:ab (Kd.S d e w base ok (.slice A n c) xs)) (hd:Kd.S d e w1 base ok (.slice A n c) xs:=by(with_reducible repeat(first|apply Kd.fA|apply Kd.fR|apply Kd.gm));exact ab.out (by first|(with_reducible assumption)|assumption)):Kd.C d w1 A xs.length xs:=(Kd.lN hd).2.2
theorem rl (h:ab (Kd.S d e w base ok (.slice A n c) xs)):xs.length≤c:=by have:=(Kd.lN h.out).1;have:=(Kd.lN h.out).2.1;omega
theorem sb (h:ab (Kd.S d e w base ok v xs)) (hb:Below w.heap.size w w1):ab (Kd.S d e w1 base ok v xs):=⟨Kd.gz h.out hb⟩
theorem rb (h:ab (Kd.R d e w base ok v xs)) (hb:Below w.heap.size w w1):ab (Kd.R d e w1 base ok v xs):=⟨Kd.iq h.out hb⟩
end

theorem sk {α:Type}{d:Kd α}{e:Nat}{w w':World}{base:Nat}{ok S:Nat→Prop}{v:Value}{xs:List α}(h:ab (Kd.S d e w base ok v xs)) (hk:Kept w w' S) (hn:∀k,ok k→¬S k):ab (Kd.S d e w' base ok v xs):=⟨Kd.acP h.out hk hn⟩
theorem rk {α:Type}{d:Kd α}{e:Nat}{w w':World}{base:Nat}{ok S:Nat→Prop}{v:Value}{xs:List α}(h:ab (Kd.R d e w base ok v xs)) (hk:Kept w w' S) (hn:∀k,ok k→¬S k):ab (Kd.R d e w' base ok v xs):=⟨Kd.oM h.out hk hn⟩
theorem kx {w:World}{g:Nat}{t:TypeId}{v0 v1:Value}(h:ab (w.heap[g]? =some (.cells #[v0,v1] t (0,0)))):∀o,((w.alloc o).cell? ⟨g,0,none⟩=some v0∧(w.alloc o).cell? ⟨g,1,none⟩=some v1):=fun o=>(z2 (ael h o)).1
theorem sD {α:Type}{d:Kd α}{e:Nat}{w':World}{base:Nat}{v:Value}{xs:List α}(h:Kd.S d e w' base (fun _=>True) v xs) (lo B:Nat) (hl:lo≤base) (hB:B≤base):ab (Kd.S d e w' B (fun k=>lo≤k∧k<w'.heap.size) v xs):=⟨Kd.sG (Kd.eY (Kd.kV h) (fun _ hk=>⟨Nat.le_trans hl hk.2.1,hk.2.2.1⟩)) hB⟩
theorem uJ {α:Type}{d:Kd α}{e:Nat}{w':World}{base:Nat}{v:Value}{xs:List α}(h:Kd.R d e w' base (fun _=>True) v xs) (lo B:Nat) (hl:lo≤base) (hB:B≤base):ab (Kd.R d e w' B (fun k=>lo≤k∧k<w'.heap.size) v xs):=⟨Kd.ay (Kd.bm (Kd.jb h) (fun _ hk=>⟨Nat.le_trans hl hk.2.1,hk.2.2.1⟩)) hB⟩
theorem wh {w:World}{g:Nat}{o:Obj}(h:ab (w.heap[g]? =some o)):ab (w.drew.heap[g]? =some o):=⟨ao h.out⟩
theorem acj {α:Type}{d:Kd α}{e base:Nat}{ok:Nat→Prop}{w:World}{v:Value}{xs:List α}(h:ab (Kd.S d e w base ok v xs)):ab (Kd.S d e w.drew base ok v xs):=⟨Kd.gm h.out⟩
theorem adB {α:Type}{d:Kd α}{e base:Nat}{ok:Nat→Prop}{w:World}{v:Value}{xs:List α}(h:ab (Kd.R d e w base ok v xs)):ab (Kd.R d e w.drew base ok v xs):=⟨Kd.cz h.out⟩
theorem rlR {α:Type}{d:Kd α}{e base n:Nat}{ok:Nat→Prop}{w:World}{A:Option Addr}{c:Nat}{xs:List α}(h:ab (Kd.R d e w base ok (.slice A n c) xs)):xs.length≤c:=by have:=(Kd.bu h.out).1;have:=(Kd.bu h.out).2.1;omega
section
variable {α:Type}{d:Kd α}{e base n:Nat}{ok S:Nat→Prop}{w w1:World}{A:Option Addr}{c:Nat}{v:Value}{xs:List α}
end
theorem aap {α:Type}(cur inner vs:List α) (p z:Nat) (hv:vs.length=z) (hp:p≤inner.length) (hT:cur.take p=inner.take p) (hl:p+z≤cur.length) (c1:List α) (h1:c1=cur.take (p+z)++inner.drop p++cur.drop (p+z+(inner.drop p).length)):
    (c1.take p++vs++c1.drop (p+vs.length)).take (inner.length+z)=inner.take p++vs++inner.drop p:=by
  have hct:(cur.take (p+z)).length=p+z:=by rw[List.length_take];omega
  have e1:c1.take p=inner.take p:=by
    rw[h1,List.append_assoc,List.take_append_of_le_length (by omega),List.take_take,Nat.min_eq_left (by omega),hT]
  have e2:c1.drop (p+vs.length)=inner.drop p++cur.drop (p+z+(inner.drop p).length):=by
    rw[h1,hv,List.append_assoc,List.drop_left' hct]
  rw[e1,e2,←List.append_assoc];refine List.take_left' ?_;simp only[List.length_append,List.length_take,List.length_drop]
  omega
theorem wS {α:Type}(row inner vs:List α) (p z:Nat) (hv:vs.length=z) (hp:p≤inner.length) (hT:row.take p=inner.take p) (c1:List α) (hl:p≤row.length) (h1:c1=row.take p++vs++row.drop (p+vs.length)):
    (c1.take (p+z)++inner.drop p++c1.drop (p+z+(inner.drop p).length)).take (inner.length+z)=inner.take p++vs++inner.drop p:=by
  have e1:c1.take (p+z)=inner.take p++vs:=by
    rw[h1,hT];exact List.take_left' (by simp only[List.length_append,List.length_take];omega)
  rw[e1];refine List.take_left' ?_;simp only[List.length_append,List.length_take,List.length_drop]
  omega
theorem wk {sz e:Nat}{W:World}{base:Nat}{ok:Nat→Prop}{g n c:Nat}{rows:List (List Value)}{cur:Array Value}(hb:W.heap[g]? =some (.cells cur e (0,0))) (hcs:cur.size=c*sz) (hnc:n≤c) (hcm:c≤maxLen) (hbg:base≤g) (hok:ok g) (hrl:rows.length=n)
    (hr:cS (fun x cs=>cs=x∧cs.length=sz∧∀u∈cs,u.oneCell'=true) sz rows (cur.toList.take (n*sz))):(Kd.raw sz).R e W base ok (.slice (some ⟨g,0,none⟩) n c) rows:=by
  subst hrl;exact⟨fun k hk=>by simp only[Value.ownBlock,Option.some.injEq]at hk;exact hk▸hok,_,⟨hr.1,.inr ⟨g,c,cur,rfl,hbg,hb,hnc,hcm,hcs,rfl⟩⟩,hr⟩
theorem aaq {sz i:Nat}{rows:List (List Value)}{inner vs:List Value}(h:cS (fun x cs=>cs=x∧cs.length=sz∧∀u∈cs,u.oneCell'=true) sz rows inner) (hi:i≤rows.length) (hvl:vs.length=sz) (h1:∀u∈vs,u.oneCell'=true):
    cS (fun x cs=>cs=x∧cs.length=sz∧∀u∈cs,u.oneCell'=true) sz (rows.take i++[vs]++rows.drop i) (inner.take (i*sz)++vs++inner.drop (i*sz)):=
  Kd.nL (cS.snoc (Kd.wT h hi) ⟨rfl,hvl,h1⟩ hvl) (Kd.se h)
theorem sf (w:World) (g a b:Nat) (xs ys:List Value):w.grownBy ((w.drew.setCells g a xs).setCells g b ys) (some g):=by
  obtain⟨a1,a2,a3,a4⟩:=fC g xs a w.drew;obtain⟨b1,b2,b3,b4⟩:=fC g ys b (w.drew.setCells g a xs)
  exact⟨b1.trans a1,b2.trans a2,b3.trans a3,by rw[b4,a4];exact Nat.le_refl _,fun k _ hk=>by
    have hkg:k≠g:=fun he=>hk (by rw[he])
    rw[eT _ _ k hkg,eT _ _ k hkg];rfl⟩
theorem nu (w:World) (o:Obj) (a b:Nat) (xs ys:List Value) (row:Option Nat):w.grownBy ((((w.alloc o).drew.setCells w.heap.size a xs).drew).setCells w.heap.size b ys) row:=by
  obtain⟨a1,a2,a3,a4⟩:=fC w.heap.size xs a (w.alloc o).drew;obtain⟨b1,b2,b3,b4⟩:=fC w.heap.size ys b ((w.alloc o).drew.setCells w.heap.size a xs).drew
  exact⟨b1.trans a1,b2.trans a2,b3.trans a3,by rw[b4];show _≤((w.alloc o).drew.setCells w.heap.size a xs).heap.size;rw[a4];show _≤(w.alloc o).heap.size;rw[World.size_alloc];omega,fun k hk _=>by
    have hkg:k≠w.heap.size:=by omega
    rw[eT _ _ k hkg]
    show((w.alloc o).drew.setCells w.heap.size a xs).heap[k]? =_
    rw[eT _ _ k hkg]
    exact Below.heap_alloc w o k hk⟩
def adG:Option Int→Value
  |none=> .nilIface
  |some c=> .iface 0 (.int .i64 c)
theorem eU:adG none= .nilIface:=rfl
theorem eV (c:Int):adG (some c)= .iface 0 (.int .i64 c):=rfl

theorem info3:(Tryz.prog.info? 3).map (fun i=>(i.zero,i.size,i.bytes))=some (some (.int .i64 0),1,8):=by kernel_rfl
theorem info5:(Tryz.prog.info? 5).map (fun i=>(i.zero,i.size,i.bytes))=some (some (.int .u8 0),1,1):=by kernel_rfl
theorem info9:(Tryz.prog.info? 9).map (fun i=>(i.zero,i.size,i.bytes))=some (some (.string ⟨#[]⟩),1,16):=by kernel_rfl
theorem kM:(Tryz.prog.info? 58).map (fun i=>(i.zero,i.size,i.bytes))=some (some (.agg #[(.int .i64 0),(.int .i64 0),(.int .i64 0),(.slice none 0 0),(.slice none 0 0),(.slice none 0 0)]),6,96):=by kernel_rfl
theorem uT:(Tryz.prog.info? 75).map (fun i=>(i.zero,i.size,i.bytes))=some (some (.agg #[(.string ⟨#[]⟩),(.int .i64 0)]),2,24):=by kernel_rfl
theorem uU:(Tryz.prog.info? 82).map (fun i=>(i.zero,i.size,i.bytes))=some (some (.agg #[(.string ⟨#[]⟩),(.string ⟨#[]⟩)]),2,32):=by kernel_rfl
-- the values' own types
/-! #### struct type 131 -/
structure jz where
  f0:ByteArray
  f1:Int
def z131:jz:=⟨(⟨#[]⟩:ByteArray),(0:Int)⟩
def qw:Kd jz:=Kd.iso (Kd.pair Kd.string (Kd.int .i64)) (fun x:jz=>(x.f0,x.f1))
theorem wU {w:World}{x:jz}{cs:List Value}(h:qw.K w x cs):cs=[.string x.f0,.int .i64 x.f1]:=by
  obtain⟨_,_,rfl,rfl,rfl⟩:=h;exact rfl
def hJ (xs:List jz) (i:Int):jz:=xs.getD i.toNat z131
theorem abR {w:World}{A:Option Addr}{n:Nat}{xs:List jz}(h:Kd.C qw w A n xs) (i:Int) (h0:0≤i) (h1:i<n):∃ad,A=some ad∧w.cell? (ad.add (i.toNat*2))=some (.string (hJ xs i).f0)∧w.cell? ⟨(ad.add (i.toNat*2)).block,(ad.add (i.toNat*2)).off+1,none⟩=some (.int .i64 (hJ xs i).f1):=by
  obtain⟨ad,c,e,_,hK,hc0⟩:=Kd.ot h z131 i h0 h1;have hc:∀j u,c[j]? =some u→w.cell? (ad.add (i.toNat*2+j))=some u:=hc0;obtain rfl:=wU hK;exact⟨ad,e,hc 0 _ rfl,by rw[←fS _ _ 1 (by omega)];exact hc 1 _ rfl⟩
theorem sH {w W:World}{A:Option Addr}{n:Nat}{xs:List jz}(h:ab (Kd.C qw w A n xs)) (hb:ab (Below w.heap.size w W)) (i:Int) (h0:0≤i) (h1:i<n):∃ad,A=some ad∧W.cell? (ad.add (i.toNat*2))=some (.string (hJ xs i).f0)∧W.cell? ⟨(ad.add (i.toNat*2)).block,(ad.add (i.toNat*2)).off+1,none⟩=some (.int .i64 (hJ xs i).f1):=by
  obtain⟨ad,h0_,h1_,h2_⟩:=abR h.out i h0 h1;exact⟨ad,h0_,cB hb h1_,cB hb h2_⟩

/-! #### struct type 133 -/
structure ka where
  f0:ByteArray
  f1:ByteArray
def adH:ka:=⟨(⟨#[]⟩:ByteArray),(⟨#[]⟩:ByteArray)⟩
def qx:Kd ka:=Kd.iso (Kd.pair Kd.string Kd.string) (fun x:ka=>(x.f0,x.f1))
theorem wV {w:World}{x:ka}{cs:List Value}(h:qx.K w x cs):cs=[.string x.f0,.string x.f1]:=by
  obtain⟨_,_,rfl,rfl,rfl⟩:=h;exact rfl
def gp (xs:List ka) (i:Int):ka:=xs.getD i.toNat adH
theorem abS {w:World}{A:Option Addr}{n:Nat}{xs:List ka}(h:Kd.C qx w A n xs) (i:Int) (h0:0≤i) (h1:i<n):∃ad,A=some ad∧w.cell? (ad.add (i.toNat*2))=some (.string (gp xs i).f0)∧w.cell? ⟨(ad.add (i.toNat*2)).block,(ad.add (i.toNat*2)).off+1,none⟩=some (.string (gp xs i).f1):=by
  obtain⟨ad,c,e,_,hK,hc0⟩:=Kd.ot h adH i h0 h1;have hc:∀j u,c[j]? =some u→w.cell? (ad.add (i.toNat*2+j))=some u:=hc0;obtain rfl:=wV hK;exact⟨ad,e,hc 0 _ rfl,by rw[←fS _ _ 1 (by omega)];exact hc 1 _ rfl⟩
theorem sI {w W:World}{A:Option Addr}{n:Nat}{xs:List ka}(h:ab (Kd.C qx w A n xs)) (hb:ab (Below w.heap.size w W)) (i:Int) (h0:0≤i) (h1:i<n):∃ad,A=some ad∧W.cell? (ad.add (i.toNat*2))=some (.string (gp xs i).f0)∧W.cell? ⟨(ad.add (i.toNat*2)).block,(ad.add (i.toNat*2)).off+1,none⟩=some (.string (gp xs i).f1):=by
  obtain⟨ad,h0_,h1_,h2_⟩:=abS h.out i h0 h1;exact⟨ad,h0_,cB hb h1_,cB hb h2_⟩

/-! #### struct type 92 -/
structure mo where
  f0:Int
  f1:Int
  f2:Int
  f3:(List Int)
  f4:(List jz)
  f5:(List ka)
def z92:mo:=⟨(0:Int),(0:Int),(0:Int),([]:List Int),([]:List jz),([]:List ka)⟩
def k92:Kd mo:=Kd.iso (Kd.pair (Kd.int .i64) (Kd.pair (Kd.int .i64) (Kd.pair (Kd.int .i64) (Kd.pair (Kd.slice 5 (Kd.int .u8)) (Kd.pair (Kd.slice 131 qw) (Kd.slice 133 qx)))))) (fun x:mo=>(x.f0,x.f1,x.f2,x.f3,x.f4,x.f5))
theorem aar {w:World}{x:mo}{cs:List Value}(h:k92.K w x cs):∃A3 c3 A4 c4 A5 c5,cs=[.int .i64 x.f0,.int .i64 x.f1,.int .i64 x.f2,.slice A3 x.f3.length c3,.slice A4 x.f4.length c4,.slice A5 x.f5.length c5]∧x.f3.length≤c3∧(Kd.int .u8).C w A3 x.f3.length x.f3∧x.f4.length≤c4∧qw.C w A4 x.f4.length x.f4∧x.f5.length≤c5∧qx.C w A5 x.f5.length x.f5:=by
  obtain⟨_,_,rfl,rfl,⟨_,_,rfl,rfl,⟨_,_,rfl,rfl,⟨_,_,rfl,⟨A3,c3,rfl,l3,g3⟩,⟨_,_,rfl,⟨A4,c4,rfl,l4,g4⟩,⟨A5,c5,rfl,l5,g5⟩⟩⟩⟩⟩⟩:=h;exact⟨A3,c3,A4,c4,A5,c5,rfl,l3,g3,l4,g4,l5,g5⟩
def cH (xs:List mo) (i:Int):mo:=xs.getD i.toNat z92
theorem acQ {w:World}{A:Option Addr}{n:Nat}{xs:List mo}(h:Kd.C k92 w A n xs) (i:Int) (h0:0≤i) (h1:i<n):∃ad A3 c3 A4 c4 A5 c5,A=some ad∧w.cell? (ad.add (i.toNat*6))=some (.int .i64 (cH xs i).f0)∧w.cell? ⟨(ad.add (i.toNat*6)).block,(ad.add (i.toNat*6)).off+1,none⟩=some (.int .i64 (cH xs i).f1)∧w.cell? ⟨(ad.add (i.toNat*6)).block,(ad.add (i.toNat*6)).off+2,none⟩=some (.int .i64 (cH xs i).f2)∧w.cell? ⟨(ad.add (i.toNat*6)).block,(ad.add (i.toNat*6)).off+3,none⟩=some (.slice A3 (cH xs i).f3.length c3)∧w.cell? ⟨(ad.add (i.toNat*6)).block,(ad.add (i.toNat*6)).off+4,none⟩=some (.slice A4 (cH xs i).f4.length c4)∧w.cell? ⟨(ad.add (i.toNat*6)).block,(ad.add (i.toNat*6)).off+5,none⟩=some (.slice A5 (cH xs i).f5.length c5)∧(cH xs i).f3.length≤c3∧(Kd.int .u8).C w A3 (cH xs i).f3.length (cH xs i).f3∧(cH xs i).f4.length≤c4∧qw.C w A4 (cH xs i).f4.length (cH xs i).f4∧(cH xs i).f5.length≤c5∧qx.C w A5 (cH xs i).f5.length (cH xs i).f5:=by
  obtain⟨ad,c,e,_,hK,hc0⟩:=Kd.ot h z92 i h0 h1;have hc:∀j u,c[j]? =some u→w.cell? (ad.add (i.toNat*6+j))=some u:=hc0;obtain⟨A3,c3,A4,c4,A5,c5,rfl,l3,g3,l4,g4,l5,g5⟩:=aar hK;exact⟨ad,A3,c3,A4,c4,A5,c5,e,hc 0 _ rfl,by rw[←fS _ _ 1 (by omega)];exact hc 1 _ rfl,by rw[←fS _ _ 2 (by omega)];exact hc 2 _ rfl,by rw[←fS _ _ 3 (by omega)];exact hc 3 _ rfl,by rw[←fS _ _ 4 (by omega)];exact hc 4 _ rfl,by rw[←fS _ _ 5 (by omega)];exact hc 5 _ rfl,l3,g3,l4,g4,l5,g5⟩
theorem uV {w W:World}{A:Option Addr}{n:Nat}{xs:List mo}(h:ab (Kd.C k92 w A n xs)) (hb:ab (Below w.heap.size w W)) (i:Int) (h0:0≤i) (h1:i<n):∃ad A3 c3 A4 c4 A5 c5,A=some ad∧W.cell? (ad.add (i.toNat*6))=some (.int .i64 (cH xs i).f0)∧W.cell? ⟨(ad.add (i.toNat*6)).block,(ad.add (i.toNat*6)).off+1,none⟩=some (.int .i64 (cH xs i).f1)∧W.cell? ⟨(ad.add (i.toNat*6)).block,(ad.add (i.toNat*6)).off+2,none⟩=some (.int .i64 (cH xs i).f2)∧W.cell? ⟨(ad.add (i.toNat*6)).block,(ad.add (i.toNat*6)).off+3,none⟩=some (.slice A3 (cH xs i).f3.length c3)∧W.cell? ⟨(ad.add (i.toNat*6)).block,(ad.add (i.toNat*6)).off+4,none⟩=some (.slice A4 (cH xs i).f4.length c4)∧W.cell? ⟨(ad.add (i.toNat*6)).block,(ad.add (i.toNat*6)).off+5,none⟩=some (.slice A5 (cH xs i).f5.length c5)∧ab ((cH xs i).f3.length≤c3)∧ab ((Kd.int .u8).C w A3 (cH xs i).f3.length (cH xs i).f3)∧ab ((cH xs i).f4.length≤c4)∧ab (qw.C w A4 (cH xs i).f4.length (cH xs i).f4)∧ab ((cH xs i).f5.length≤c5)∧ab (qx.C w A5 (cH xs i).f5.length (cH xs i).f5):=by
  obtain⟨ad,A3,c3,A4,c4,A5,c5,h0_,h1_,h2_,h3_,h4_,h5_,h6_,h7_,h8_,h9_,acR,acS,acT⟩:=acQ h.out i h0 h1;exact⟨ad,A3,c3,A4,c4,A5,c5,h0_,cB hb h1_,cB hb h2_,cB hb h3_,cB hb h4_,cB hb h5_,cB hb h6_,⟨h7_⟩,⟨h8_⟩,⟨h9_⟩,⟨acR⟩,⟨acS⟩,⟨acT⟩⟩

/-! #### struct type 75 -/
structure eb where
  f0:ByteArray
  f1:Int
def z75:eb:=⟨(⟨#[]⟩:ByteArray),(0:Int)⟩
def iT:Kd eb:=Kd.iso (Kd.pair Kd.string (Kd.int .i64)) (fun x:eb=>(x.f0,x.f1))
theorem aas {w:World}{x:eb}{cs:List Value}(h:iT.K w x cs):cs=[.string x.f0,.int .i64 x.f1]:=by
  obtain⟨_,_,rfl,rfl,rfl⟩:=h;exact rfl
theorem lI {w:World}{base:Nat}{ok:Nat→Prop}{x:eb}{cs:List Value}(h:iT.M w base ok x cs):cs=[.string x.f0,.int .i64 x.f1]:=by
  obtain⟨_,_,rfl,rfl,rfl⟩:=h;exact rfl
theorem qE (w:World) (base:Nat) (ok:Nat→Prop) (x:eb):iT.M w base ok x [.string x.f0,.int .i64 x.f1]:=⟨[.string x.f0],[.int .i64 x.f1],rfl,rfl,rfl⟩
def al (xs:List eb) (i:Int):eb:=xs.getD i.toNat z75
theorem cV {w:World}{A:Option Addr}{n:Nat}{xs:List eb}(h:Kd.C iT w A n xs) (i:Int) (h0:0≤i) (h1:i<n):∃ad,A=some ad∧w.cell? (ad.add (i.toNat*2))=some (.string (al xs i).f0)∧w.cell? ⟨(ad.add (i.toNat*2)).block,(ad.add (i.toNat*2)).off+1,none⟩=some (.int .i64 (al xs i).f1):=by
  obtain⟨ad,c,e,_,hK,hc0⟩:=Kd.ot h z75 i h0 h1;have hc:∀j u,c[j]? =some u→w.cell? (ad.add (i.toNat*2+j))=some u:=hc0;obtain rfl:=aas hK;exact⟨ad,e,hc 0 _ rfl,by rw[←fS _ _ 1 (by omega)];exact hc 1 _ rfl⟩
theorem kp {w W:World}{A:Option Addr}{n:Nat}{xs:List eb}(h:ab (Kd.C iT w A n xs)) (hb:ab (Below w.heap.size w W)) (i:Int) (h0:0≤i) (h1:i<n):∃ad,A=some ad∧W.cell? (ad.add (i.toNat*2))=some (.string (al xs i).f0)∧W.cell? ⟨(ad.add (i.toNat*2)).block,(ad.add (i.toNat*2)).off+1,none⟩=some (.int .i64 (al xs i).f1):=by
  obtain⟨ad,h0_,h1_,h2_⟩:=cV h.out i h0 h1;exact⟨ad,h0_,cB hb h1_,cB hb h2_⟩

/-! #### struct type 82 -/
structure eh where
  f0:ByteArray
  f1:ByteArray
def z82:eh:=⟨(⟨#[]⟩:ByteArray),(⟨#[]⟩:ByteArray)⟩
def iU:Kd eh:=Kd.iso (Kd.pair Kd.string Kd.string) (fun x:eh=>(x.f0,x.f1))
theorem aat {w:World}{x:eh}{cs:List Value}(h:iU.K w x cs):cs=[.string x.f0,.string x.f1]:=by
  obtain⟨_,_,rfl,rfl,rfl⟩:=h;exact rfl
theorem lJ {w:World}{base:Nat}{ok:Nat→Prop}{x:eh}{cs:List Value}(h:iU.M w base ok x cs):cs=[.string x.f0,.string x.f1]:=by
  obtain⟨_,_,rfl,rfl,rfl⟩:=h;exact rfl
theorem qF (w:World) (base:Nat) (ok:Nat→Prop) (x:eh):iU.M w base ok x [.string x.f0,.string x.f1]:=⟨[.string x.f0],[.string x.f1],rfl,rfl,rfl⟩
def an (xs:List eh) (i:Int):eh:=xs.getD i.toNat z82
theorem dw {w:World}{A:Option Addr}{n:Nat}{xs:List eh}(h:Kd.C iU w A n xs) (i:Int) (h0:0≤i) (h1:i<n):∃ad,A=some ad∧w.cell? (ad.add (i.toNat*2))=some (.string (an xs i).f0)∧w.cell? ⟨(ad.add (i.toNat*2)).block,(ad.add (i.toNat*2)).off+1,none⟩=some (.string (an xs i).f1):=by
  obtain⟨ad,c,e,_,hK,hc0⟩:=Kd.ot h z82 i h0 h1;have hc:∀j u,c[j]? =some u→w.cell? (ad.add (i.toNat*2+j))=some u:=hc0;obtain rfl:=aat hK;exact⟨ad,e,hc 0 _ rfl,by rw[←fS _ _ 1 (by omega)];exact hc 1 _ rfl⟩
theorem qP {w W:World}{A:Option Addr}{n:Nat}{xs:List eh}(h:ab (Kd.C iU w A n xs)) (hb:ab (Below w.heap.size w W)) (i:Int) (h0:0≤i) (h1:i<n):∃ad,A=some ad∧W.cell? (ad.add (i.toNat*2))=some (.string (an xs i).f0)∧W.cell? ⟨(ad.add (i.toNat*2)).block,(ad.add (i.toNat*2)).off+1,none⟩=some (.string (an xs i).f1):=by
  obtain⟨ad,h0_,h1_,h2_⟩:=dw h.out i h0 h1;exact⟨ad,h0_,cB hb h1_,cB hb h2_⟩

/-! #### struct type 58 -/
structure bh where
  f0:Int
  f1:Int
  f2:Int
  f3:(List Int)
  f4:(List eb)
  f5:(List eh)
def z58:bh:=⟨(0:Int),(0:Int),(0:Int),([]:List Int),([]:List eb),([]:List eh)⟩
def fD:Kd bh:=Kd.iso (Kd.pair (Kd.int .i64) (Kd.pair (Kd.int .i64) (Kd.pair (Kd.int .i64) (Kd.pair (Kd.slice 5 (Kd.int .u8)) (Kd.pair (Kd.slice 75 iT) (Kd.slice 82 iU)))))) (fun x:bh=>(x.f0,x.f1,x.f2,x.f3,x.f4,x.f5))
theorem nM {w:World}{x:bh}{cs:List Value}(h:fD.K w x cs):∃A3 c3 A4 c4 A5 c5,cs=[.int .i64 x.f0,.int .i64 x.f1,.int .i64 x.f2,.slice A3 x.f3.length c3,.slice A4 x.f4.length c4,.slice A5 x.f5.length c5]∧x.f3.length≤c3∧(Kd.int .u8).C w A3 x.f3.length x.f3∧x.f4.length≤c4∧iT.C w A4 x.f4.length x.f4∧x.f5.length≤c5∧iU.C w A5 x.f5.length x.f5:=by
  obtain⟨_,_,rfl,rfl,⟨_,_,rfl,rfl,⟨_,_,rfl,rfl,⟨_,_,rfl,⟨A3,c3,rfl,l3,g3⟩,⟨_,_,rfl,⟨A4,c4,rfl,l4,g4⟩,⟨A5,c5,rfl,l5,g5⟩⟩⟩⟩⟩⟩:=h;exact⟨A3,c3,A4,c4,A5,c5,rfl,l3,g3,l4,g4,l5,g5⟩
theorem pK {w:World}{base:Nat}{ok:Nat→Prop}{x:bh}{cs:List Value}(h:fD.M w base ok x cs):∃v3 v4 v5,cs=[.int .i64 x.f0,.int .i64 x.f1,.int .i64 x.f2,v3,v4,v5]∧(Kd.int .u8).R 5 w base ok v3 x.f3∧iT.R 75 w base ok v4 x.f4∧iU.R 82 w base ok v5 x.f5:=by
  obtain⟨_,_,rfl,rfl,⟨_,_,rfl,rfl,⟨_,_,rfl,rfl,⟨_,_,rfl,⟨v3,rfl,g3⟩,⟨_,_,rfl,⟨v4,rfl,g4⟩,⟨v5,rfl,g5⟩⟩⟩⟩⟩⟩:=h;exact⟨v3,v4,v5,rfl,g3,g4,g5⟩
theorem acU (w:World) (x:bh) {A3:Option Addr}{c3:Nat}(l3:x.f3.length≤c3) (g3:(Kd.int .u8).C w A3 x.f3.length x.f3) {A4:Option Addr}{c4:Nat}(l4:x.f4.length≤c4) (g4:iT.C w A4 x.f4.length x.f4) {A5:Option Addr}{c5:Nat}(l5:x.f5.length≤c5) (g5:iU.C w A5 x.f5.length x.f5):fD.K w x [.int .i64 x.f0,.int .i64 x.f1,.int .i64 x.f2,.slice A3 x.f3.length c3,.slice A4 x.f4.length c4,.slice A5 x.f5.length c5]:=⟨[.int .i64 x.f0],[.int .i64 x.f1,.int .i64 x.f2,.slice A3 x.f3.length c3,.slice A4 x.f4.length c4,.slice A5 x.f5.length c5],rfl,rfl,⟨[.int .i64 x.f1],[.int .i64 x.f2,.slice A3 x.f3.length c3,.slice A4 x.f4.length c4,.slice A5 x.f5.length c5],rfl,rfl,⟨[.int .i64 x.f2],[.slice A3 x.f3.length c3,.slice A4 x.f4.length c4,.slice A5 x.f5.length c5],rfl,rfl,⟨[.slice A3 x.f3.length c3],[.slice A4 x.f4.length c4,.slice A5 x.f5.length c5],rfl,⟨A3,c3,rfl,l3,g3⟩,⟨[.slice A4 x.f4.length c4],[.slice A5 x.f5.length c5],rfl,⟨A4,c4,rfl,l4,g4⟩,⟨A5,c5,rfl,l5,g5⟩⟩⟩⟩⟩⟩
theorem nY (w:World) (base:Nat) (ok:Nat→Prop) (x:bh) {v3:Value}(g3:(Kd.int .u8).R 5 w base ok v3 x.f3) {v4:Value}(g4:iT.R 75 w base ok v4 x.f4) {v5:Value}(g5:iU.R 82 w base ok v5 x.f5):fD.M w base ok x [.int .i64 x.f0,.int .i64 x.f1,.int .i64 x.f2,v3,v4,v5]:=⟨[.int .i64 x.f0],[.int .i64 x.f1,.int .i64 x.f2,v3,v4,v5],rfl,rfl,⟨[.int .i64 x.f1],[.int .i64 x.f2,v3,v4,v5],rfl,rfl,⟨[.int .i64 x.f2],[v3,v4,v5],rfl,rfl,⟨[v3],[v4,v5],rfl,⟨v3,rfl,g3⟩,⟨[v4],[v5],rfl,⟨v4,rfl,g4⟩,⟨v5,rfl,g5⟩⟩⟩⟩⟩⟩
theorem sg {W:World}{ok:Nat→Prop}{x:bh}{cs:List Value}(h:Kd.FK fD W ok x cs):∃A3 c3 A4 c4 A5 c5,cs=[.int .i64 x.f0,.int .i64 x.f1,.int .i64 x.f2,.slice A3 x.f3.length c3,.slice A4 x.f4.length c4,.slice A5 x.f5.length c5]∧x.f3.length≤c3∧Kd.F (Kd.int .u8) W ok A3 x.f3.length x.f3∧x.f4.length≤c4∧Kd.F iT W ok A4 x.f4.length x.f4∧x.f5.length≤c5∧Kd.F iU W ok A5 x.f5.length x.f5:=by
  obtain⟨A3,c3,A4,c4,A5,c5,rfl,l3,_,l4,_,l5,_⟩:=nM (Kd.lp h);exact⟨A3,c3,A4,c4,A5,c5,rfl,l3,(fun W' hW=>by obtain⟨A3_,c3_,A4_,c4_,A5_,c5_,he,l3_,g3_,l4_,g4_,l5_,g5_⟩:=nM (h W' hW);injection (Option.some.inj (show some (Value.slice A3 x.f3.length c3)=some (Value.slice A3_ x.f3.length c3_)from congrArg (fun l=>l[3]?) he))with ha_ _ _;rw[ha_];exact g3_),l4,(fun W' hW=>by obtain⟨A3_,c3_,A4_,c4_,A5_,c5_,he,l3_,g3_,l4_,g4_,l5_,g5_⟩:=nM (h W' hW);injection (Option.some.inj (show some (Value.slice A4 x.f4.length c4)=some (Value.slice A4_ x.f4.length c4_)from congrArg (fun l=>l[4]?) he))with ha_ _ _;rw[ha_];exact g4_),l5,(fun W' hW=>by obtain⟨A3_,c3_,A4_,c4_,A5_,c5_,he,l3_,g3_,l4_,g4_,l5_,g5_⟩:=nM (h W' hW);injection (Option.some.inj (show some (Value.slice A5 x.f5.length c5)=some (Value.slice A5_ x.f5.length c5_)from congrArg (fun l=>l[5]?) he))with ha_ _ _;rw[ha_];exact g5_)⟩
theorem sJ (W:World) (ok:Nat→Prop) (x:bh) {A3:Option Addr}{c3:Nat}(l3:x.f3.length≤c3) (g3:Kd.F (Kd.int .u8) W ok A3 x.f3.length x.f3) {A4:Option Addr}{c4:Nat}(l4:x.f4.length≤c4) (g4:Kd.F iT W ok A4 x.f4.length x.f4) {A5:Option Addr}{c5:Nat}(l5:x.f5.length≤c5) (g5:Kd.F iU W ok A5 x.f5.length x.f5):Kd.FK fD W ok x [.int .i64 x.f0,.int .i64 x.f1,.int .i64 x.f2,.slice A3 x.f3.length c3,.slice A4 x.f4.length c4,.slice A5 x.f5.length c5]:=fun W2 hW=>acU W2 x l3 (g3 W2 hW) l4 (g4 W2 hW) l5 (g5 W2 hW)
def af (xs:List bh) (i:Int):bh:=xs.getD i.toNat z58
theorem fl {w:World}{A:Option Addr}{n:Nat}{xs:List bh}(h:Kd.C fD w A n xs) (i:Int) (h0:0≤i) (h1:i<n):∃ad A3 c3 A4 c4 A5 c5,A=some ad∧w.cell? (ad.add (i.toNat*6))=some (.int .i64 (af xs i).f0)∧w.cell? ⟨(ad.add (i.toNat*6)).block,(ad.add (i.toNat*6)).off+1,none⟩=some (.int .i64 (af xs i).f1)∧w.cell? ⟨(ad.add (i.toNat*6)).block,(ad.add (i.toNat*6)).off+2,none⟩=some (.int .i64 (af xs i).f2)∧w.cell? ⟨(ad.add (i.toNat*6)).block,(ad.add (i.toNat*6)).off+3,none⟩=some (.slice A3 (af xs i).f3.length c3)∧w.cell? ⟨(ad.add (i.toNat*6)).block,(ad.add (i.toNat*6)).off+4,none⟩=some (.slice A4 (af xs i).f4.length c4)∧w.cell? ⟨(ad.add (i.toNat*6)).block,(ad.add (i.toNat*6)).off+5,none⟩=some (.slice A5 (af xs i).f5.length c5)∧(af xs i).f3.length≤c3∧(Kd.int .u8).C w A3 (af xs i).f3.length (af xs i).f3∧(af xs i).f4.length≤c4∧iT.C w A4 (af xs i).f4.length (af xs i).f4∧(af xs i).f5.length≤c5∧iU.C w A5 (af xs i).f5.length (af xs i).f5:=by
  obtain⟨ad,c,e,_,hK,hc0⟩:=Kd.ot h z58 i h0 h1;have hc:∀j u,c[j]? =some u→w.cell? (ad.add (i.toNat*6+j))=some u:=hc0;obtain⟨A3,c3,A4,c4,A5,c5,rfl,l3,g3,l4,g4,l5,g5⟩:=nM hK;exact⟨ad,A3,c3,A4,c4,A5,c5,e,hc 0 _ rfl,by rw[←fS _ _ 1 (by omega)];exact hc 1 _ rfl,by rw[←fS _ _ 2 (by omega)];exact hc 2 _ rfl,by rw[←fS _ _ 3 (by omega)];exact hc 3 _ rfl,by rw[←fS _ _ 4 (by omega)];exact hc 4 _ rfl,by rw[←fS _ _ 5 (by omega)];exact hc 5 _ rfl,l3,g3,l4,g4,l5,g5⟩
theorem fc {w W:World}{A:Option Addr}{n:Nat}{xs:List bh}(h:ab (Kd.C fD w A n xs)) (hb:ab (Below w.heap.size w W)) (i:Int) (h0:0≤i) (h1:i<n):∃ad A3 c3 A4 c4 A5 c5,A=some ad∧W.cell? (ad.add (i.toNat*6))=some (.int .i64 (af xs i).f0)∧W.cell? ⟨(ad.add (i.toNat*6)).block,(ad.add (i.toNat*6)).off+1,none⟩=some (.int .i64 (af xs i).f1)∧W.cell? ⟨(ad.add (i.toNat*6)).block,(ad.add (i.toNat*6)).off+2,none⟩=some (.int .i64 (af xs i).f2)∧W.cell? ⟨(ad.add (i.toNat*6)).block,(ad.add (i.toNat*6)).off+3,none⟩=some (.slice A3 (af xs i).f3.length c3)∧W.cell? ⟨(ad.add (i.toNat*6)).block,(ad.add (i.toNat*6)).off+4,none⟩=some (.slice A4 (af xs i).f4.length c4)∧W.cell? ⟨(ad.add (i.toNat*6)).block,(ad.add (i.toNat*6)).off+5,none⟩=some (.slice A5 (af xs i).f5.length c5)∧ab ((af xs i).f3.length≤c3)∧ab ((Kd.int .u8).C w A3 (af xs i).f3.length (af xs i).f3)∧ab ((af xs i).f4.length≤c4)∧ab (iT.C w A4 (af xs i).f4.length (af xs i).f4)∧ab ((af xs i).f5.length≤c5)∧ab (iU.C w A5 (af xs i).f5.length (af xs i).f5):=by
  obtain⟨ad,A3,c3,A4,c4,A5,c5,h0_,h1_,h2_,h3_,h4_,h5_,h6_,h7_,h8_,h9_,acR,acS,acT⟩:=fl h.out i h0 h1;exact⟨ad,A3,c3,A4,c4,A5,c5,h0_,cB hb h1_,cB hb h2_,cB hb h3_,cB hb h4_,cB hb h5_,cB hb h6_,⟨h7_⟩,⟨h8_⟩,⟨h9_⟩,⟨acR⟩,⟨acS⟩,⟨acT⟩⟩

/-! #### struct type 24 -/
structure S24 where
  f0:(List mo)
  f1:Int
def k24:Kd S24:=Kd.iso (Kd.pair (Kd.slice 92 k92) (Kd.int .i64)) (fun x:S24=>(x.f0,x.f1))
theorem aaa {w:World}{x:S24}{cs:List Value}(h:k24.K w x cs):∃A0 c0,cs=[.slice A0 x.f0.length c0,.int .i64 x.f1]∧x.f0.length≤c0∧k92.C w A0 x.f0.length x.f0:=by
  obtain⟨_,_,rfl,⟨A0,c0,rfl,l0,g0⟩,rfl⟩:=h;exact⟨A0,c0,rfl,l0,g0⟩
end Go.Proofs.YtlecajlnjmbilaaGreatDoor.P
