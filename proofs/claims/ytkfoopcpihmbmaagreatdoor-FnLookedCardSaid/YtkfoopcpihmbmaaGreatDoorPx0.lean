-- Printed walks.
import Derived.Laws.Cover1
import Derived.WalkSpells
import Derived.Test.YtkfoopcpihmbmaaGreatDoorSh
import Derived.Test.YtkfoopcpihmbmaaGreatDoorWFour
import Derived.Test.YtkfoopcpihmbmaaGreatDoorWAt
import Derived.Test.YtkfoopcpihmbmaaGreatDoorWEqStruct
import Derived.Test.YtkfoopcpihmbmaaGreatDoorWRepsOne
import Derived.Test.YtkfoopcpihmbmaaGreatDoorWInvWords
import Derived.Test.YtkfoopcpihmbmaaGreatDoorWGuard
import Derived.Test.YtkfoopcpihmbmaaGreatDoorWMore
set_option linter.all false
namespace Go.Proofs.YtkfoopcpihmbmaaGreatDoor.P
open Go.RowKit Go.Proofs.ab.av Go.Proofs.ab.aQ Go.Proofs.ab.aT
attribute [local go_sem] fP fQ hJ hO fm fo fR fS

theorem oa {p:Prop} [Decidable p] (h:decide p=true:=by first|(with_reducible assumption)|assumption):p:=of_decide_eq_true h
theorem oD {p:Prop}(h:p:=by repeat(first|exact fZ.refl _|apply fZ.step)):p:=h
theorem oE {p:Prop}(h:p:=by first|rfl|(simp[iv,iw]<;>rfl)|(simp[*,iv,iw]<;>rfl)):p:=h
theorem oL {p:Prop}(h:p:=by(try simp only[List.map_toArray,List.map_cons,List.map_nil]);first|done|rfl|(simp only[List.length_drop,List.length_take];rfl)):p:=h
theorem oS {p:Prop}(h:p:=by first|rfl|(simp;done)|(simp[*];done)):p:=h
theorem bA {α β:Type}{x:Option α}{f:α→Option β}{r:β}(h:x.bind f=some r):∃a,ae (x=some a)∧f a=some r:=by
  obtain⟨a,h1,h2⟩:=Option.bind_eq_some_iff.mp h;exact⟨a,⟨h1⟩,h2⟩
theorem jl {α:Type}{b:Bool}{x y:Option α}{r:α}(h:(if b=true then x else y)=some r):(b=true∧x=some r)∨(b=false∧y=some r):=by
  cases b
  · exact .inr ⟨rfl,by simpa using h⟩
  · exact .inl ⟨rfl,by simpa using h⟩
theorem kU {α:Type}{p:Prop} [d:Decidable p] {x y:Option α}{r:α}(h:(if p then x else y)=some r):(decide p=true∧x=some r)∨(decide p=false∧y=some r):=by
  by_cases c:p
  · exact .inl ⟨decide_eq_true c,by rwa [if_pos c]at h⟩
  · exact .inr ⟨decide_eq_false c,by rwa [if_neg c]at h⟩
theorem ym {α:Type}{a b:Int}{x y:Option α}{r:α}(h:(if a>b then x else y)=some r):(decide (b<a)=true∧x=some r)∨(decide (b<a)=false∧y=some r):=kU h
theorem itH {α:Type}{a b:Int}{x y:Option α}{r:α}(h:(if a≥b then x else y)=some r):(decide (b≤a)=true∧x=some r)∨(decide (b≤a)=false∧y=some r):=kU h
theorem bs_ {w W:World}{g j:Nat}{v:Value}(h:Below w.heap.size w W) (hg:ae (w.heap.size≤g)):Below w.heap.size w (W.setCell ⟨g,j,none⟩ v):=a_ h hg.out
theorem oB {p:Prop}(h:p:=by repeat(first|(with_reducible first|exact HB.out|apply ew|apply d_|apply bl|refine bs_ ?_ (by with_reducible assumption))|exact HB.out)):p:=h
theorem oQ {p:Prop}(h:p:=by first|exact⟨rfl,_,World.drewN_drewN _ _ _⟩|exact⟨rfl,_,Eq.trans (World.drewN_drewN _ _ _) (congrArg (World.drewN _) (Nat.add_assoc _ _ _))⟩):p:=h
theorem cB {w W:World}{a:Addr}{v:Value}(hB:ae (Below w.heap.size w W)) (h:w.cell? a=some v):W.cell? a=some v:=(hB.out.cell (World.block_lt_of_cell? w _ h)).trans h
theorem oT {p:Prop} [Decidable p] (h:decide p=true:=by first|(with_reducible assumption)|assumption):p=True:=eq_true (of_decide_eq_true h)
theorem bc_ {w:World}{g i:Nat}{t:TypeId}{cs:Array Value}{v:Value}(h:ae (w.heap[g]? =some (.cells cs t (0,0)))) (e:cs[i]? =some v):w.cell? ⟨g,i,none⟩=some v:=(aj h.out i).trans e
theorem oH {p:Prop}(h:p:=by(repeat' (with_reducible refine And.intro ?_ ?_))<;>(first|exact cB HB (by with_reducible assumption)|(refine bc_ (by with_reducible assumption) ?_;rfl)|(refine bc_ (ae.mk (bm (ae.out (by with_reducible assumption)) _)) ?_;rfl))):p:=h
theorem oF {g:Nat}{o:Obj}{w w1:World}(_:ae (w.heap[g]? =some o)) (hd:w1.heap[g]? =some o:=by(repeat(first|(with_reducible first|refine bm ?_ _|refine ar ?_|refine ax ?_ _)|refine cF ?_ (ae.out (by with_reducible assumption)) _));exact ae.out (by first|(with_reducible assumption)|assumption)):w1.heap[g]? =some o:=hd
theorem z1 {w:World}{g:Nat}{t:TypeId}{v0:Value}(h:ae (w.heap[g]? =some (.cells #[v0] t (0,0)))):w.cell? ⟨g,0,none⟩=some v0∧w.frozen? ⟨g,0,none⟩=false:=⟨(aj h.out 0).trans rfl,aK h.out 0⟩
theorem z2 {w:World}{g:Nat}{t:TypeId}{v0 v1:Value}(h:ae (w.heap[g]? =some (.cells #[v0,v1] t (0,0)))):(w.cell? ⟨g,0,none⟩=some v0∧w.cell? ⟨g,1,none⟩=some v1)∧w.frozen? ⟨g,0,none⟩=false∧w.frozen? ⟨g,1,none⟩=false:=⟨⟨(aj h.out 0).trans rfl,(aj h.out 1).trans rfl⟩,aK h.out 0,aK h.out 1⟩
theorem z3 {w:World}{g:Nat}{t:TypeId}{v0 v1 v2:Value}(h:ae (w.heap[g]? =some (.cells #[v0,v1,v2] t (0,0)))):(w.cell? ⟨g,0,none⟩=some v0∧w.cell? ⟨g,1,none⟩=some v1∧w.cell? ⟨g,2,none⟩=some v2)∧w.frozen? ⟨g,0,none⟩=false∧w.frozen? ⟨g,1,none⟩=false∧w.frozen? ⟨g,2,none⟩=false:=⟨⟨(aj h.out 0).trans rfl,(aj h.out 1).trans rfl,(aj h.out 2).trans rfl⟩,aK h.out 0,aK h.out 1,aK h.out 2⟩
theorem z4 {w:World}{g:Nat}{t:TypeId}{v0 v1 v2 v3:Value}(h:ae (w.heap[g]? =some (.cells #[v0,v1,v2,v3] t (0,0)))):(w.cell? ⟨g,0,none⟩=some v0∧w.cell? ⟨g,1,none⟩=some v1∧w.cell? ⟨g,2,none⟩=some v2∧w.cell? ⟨g,3,none⟩=some v3)∧w.frozen? ⟨g,0,none⟩=false∧w.frozen? ⟨g,1,none⟩=false∧w.frozen? ⟨g,2,none⟩=false∧w.frozen? ⟨g,3,none⟩=false:=⟨⟨(aj h.out 0).trans rfl,(aj h.out 1).trans rfl,(aj h.out 2).trans rfl,(aj h.out 3).trans rfl⟩,aK h.out 0,aK h.out 1,aK h.out 2,aK h.out 3⟩
theorem z5 {w:World}{g:Nat}{t:TypeId}{v0 v1 v2 v3 v4:Value}(h:ae (w.heap[g]? =some (.cells #[v0,v1,v2,v3,v4] t (0,0)))):(w.cell? ⟨g,0,none⟩=some v0∧w.cell? ⟨g,1,none⟩=some v1∧w.cell? ⟨g,2,none⟩=some v2∧w.cell? ⟨g,3,none⟩=some v3∧w.cell? ⟨g,4,none⟩=some v4)∧w.frozen? ⟨g,0,none⟩=false∧w.frozen? ⟨g,1,none⟩=false∧w.frozen? ⟨g,2,none⟩=false∧w.frozen? ⟨g,3,none⟩=false∧w.frozen? ⟨g,4,none⟩=false:=⟨⟨(aj h.out 0).trans rfl,(aj h.out 1).trans rfl,(aj h.out 2).trans rfl,(aj h.out 3).trans rfl,(aj h.out 4).trans rfl⟩,aK h.out 0,aK h.out 1,aK h.out 2,aK h.out 3,aK h.out 4⟩
theorem z6 {w:World}{g:Nat}{t:TypeId}{v0 v1 v2 v3 v4 v5:Value}(h:ae (w.heap[g]? =some (.cells #[v0,v1,v2,v3,v4,v5] t (0,0)))):(w.cell? ⟨g,0,none⟩=some v0∧w.cell? ⟨g,1,none⟩=some v1∧w.cell? ⟨g,2,none⟩=some v2∧w.cell? ⟨g,3,none⟩=some v3∧w.cell? ⟨g,4,none⟩=some v4∧w.cell? ⟨g,5,none⟩=some v5)∧w.frozen? ⟨g,0,none⟩=false∧w.frozen? ⟨g,1,none⟩=false∧w.frozen? ⟨g,2,none⟩=false∧w.frozen? ⟨g,3,none⟩=false∧w.frozen? ⟨g,4,none⟩=false∧w.frozen? ⟨g,5,none⟩=false:=⟨⟨(aj h.out 0).trans rfl,(aj h.out 1).trans rfl,(aj h.out 2).trans rfl,(aj h.out 3).trans rfl,(aj h.out 4).trans rfl,(aj h.out 5).trans rfl⟩,aK h.out 0,aK h.out 1,aK h.out 2,aK h.out 3,aK h.out 4,aK h.out 5⟩
theorem ba {g:Nat}{o:Obj}{w w1 w2:World}(_:ae (w.heap[g]? =some o)) (hb:Below w1.heap.size w1 w2) (hd:w1.heap[g]? =some o:=by(repeat(first|(with_reducible first|refine bm ?_ _|refine ar ?_|refine ax ?_ _)|refine cF ?_ (ae.out (by with_reducible assumption)) _));exact ae.out (by first|(with_reducible assumption)|assumption)):ae (w2.heap[g]? =some o):=⟨mq hd hb⟩
theorem fX {g g':Nat}{o:Obj}{w w1:World}(hg:g'=w1.heap.size) (_:ae (w.heap[g]? =some o)) (hd:w1.heap[g]? =some o:=by(repeat(first|(with_reducible first|refine bm ?_ _|refine ar ?_|refine ax ?_ _)|refine cF ?_ (ae.out (by with_reducible assumption)) _));exact ae.out (by first|(with_reducible assumption)|assumption)):ae (g≠g'):=⟨by rw[hg];exact Nat.ne_of_lt (jy hd)⟩
theorem fY {g g':Nat}{o:Obj}{w w1:World}(hg:g'=w1.heap.size) (_:ae (w.heap[g]? =some o)) (hd:w1.heap[g]? =some o:=by(repeat(first|(with_reducible first|refine bm ?_ _|refine ar ?_|refine ax ?_ _)|refine cF ?_ (ae.out (by with_reducible assumption)) _));exact ae.out (by first|(with_reducible assumption)|assumption)):ae (g'≠g):=⟨by rw[hg];exact Nat.ne_of_gt (jy hd)⟩
theorem fO {g:Nat}{w W:World}(hg:g=W.heap.size) (h:Below w.heap.size w W:=by repeat(first|(with_reducible first|exact HB.out|apply ew|apply d_|apply bl|refine bs_ ?_ (by with_reducible assumption))|exact HB.out)):ae (w.heap.size≤g):=⟨by rw[hg];exact af h⟩
section
variable {P:Program}{ops:Array Oper}{Q:Exit→Act→World→Prop}{rest:List Oper}{oi:Oper}{a:Act}{w:World}
theorem dk (N:Tmp) {f:FuncId}{fn:Func}(hf:P.funcs[f]? =some fn) {args:Array Value}{R:Ending→World→Prop}{aa:Array Operand}{ts:Array TypeId}(h:Calls P f args w R) (hn:∀e w',R e w'→∃v,e= .returned v∧wpList P ops Q rest (a.put (some N) v) w')
    (hop:oi.op= .call {callee:= .value (.func f),args:=aa,argTypes:=ts}:=by exact rfl) (hargs:aa.map a.eval=args:=by(try simp only[List.map_toArray,List.map_cons,List.map_nil]);first|done|rfl|(simp only[List.length_drop,List.length_take];rfl)) (hd:oi.dst=some N:=by exact rfl) (hg:oi.guard=none:=by exact rfl) (hname:(fn.name== "runtime.NumGoroutine")=false:=by kernel_rfl) (hb:fn.body.isSome=true:=by exact rfl):wpList P ops Q (oi::rest) a w:=
  sN (some N) hd hg hf hname hb args hop hargs (h.mono hn)
theorem fz {W:World}(N:Tmp) (cs:Array Value) (t:TypeId)
    (h:∀g,g=W.heap.size→∀w1,w1.heap[g]? =some (.cells cs t (0,0))→Below W.heap.size W w1→wpList P ops Q rest (a.put oi.dst (.pointer (some ⟨g,0,none⟩))) w1) (hgd:oi.guard=none:=by exact rfl) (hd:oi.dst=some N:=by exact rfl)
    (hrun:(execOp a.eval oi).run P W= .ok (.value (.pointer (some ⟨W.heap.size,0,none⟩))) (W.alloc (.cells cs t (0,0))):=by first|(go_simp;done)|(go_simp;rfl)):wpList P ops Q (oi::rest) a W:=sl hgd hd hrun h
end
section
variable {α:Type}{d:Kd α}{e base n:Nat}{ok okv:Nat→Prop}{w w1 w2:World}{A:Option Addr}{c:Nat}{u v:Value}{xs:List α}
theorem sb {β:Type}{d':Kd β}{e':Nat}{ys:List β}(_:ae (d.R e w base ok u xs)) (ho:d'.R e' w2 w1.heap.size okv v ys) (hb:Below w1.heap.size w1 w2) (hd:d.R e w1 base ok u xs:=by(with_reducible repeat(first|apply Kd.cP|apply Kd.cQ|apply Kd.b_));exact ae.out (by first|(with_reducible assumption)|assumption)):ae (d.R e w2 base (fun k=>ok k∧some k≠v.ownBlock) u xs):=⟨Kd.q_ hd (Kd.cL ho) hb⟩
theorem dm (_:ae (d.R e w base ok u xs)) (hb:Below w1.heap.size w1 w2) (hd:d.R e w1 base ok u xs:=by(with_reducible repeat(first|apply Kd.cP|apply Kd.cQ|apply Kd.b_));exact ae.out (by first|(with_reducible assumption)|assumption)):ae (d.R e w2 base ok u xs):=⟨Kd.jq hd hb⟩
theorem iO (_:ae (d.R e w base ok u xs)) (hd:d.R e w1 base ok u xs:=by(with_reducible repeat(first|apply Kd.cP|apply Kd.cQ|apply Kd.b_));exact ae.out (by first|(with_reducible assumption)|assumption)):∀k,u.ownBlock=some k→k<w1.heap.size:=Kd.abj hd
theorem oR (_:ae (d.R e w base ok u xs)) (hd:d.R e w1 base ok u xs:=by(with_reducible repeat(first|apply Kd.cP|apply Kd.cQ|apply Kd.b_));exact ae.out (by first|(with_reducible assumption)|assumption)):d.R e w1 base ok u xs:=hd
theorem kC (h:ae (Kd.C d w A n xs)) (hb:Below w.heap.size w w1:=by repeat(first|(with_reducible first|exact HB.out|apply ew|apply d_|apply bl|refine bs_ ?_ (by with_reducible assumption))|exact HB.out)):Kd.C d w1 A n xs:=Kd.cR h.out hb
theorem kD (_:ae (Kd.C d w A n xs)) (hd:Kd.C d w1 A n xs:=by(with_reducible repeat(first|refine Kd.ji ?_ _|refine Kd.iS ?_ _|refine Kd.ks ?_));exact ae.out (by first|(with_reducible assumption)|assumption)):Kd.C d w1 A n xs:=hd
theorem kO (_:ae (d.R e w base ok (.slice A n c) xs)) (hd:d.R e w1 base ok (.slice A n c) xs:=by(with_reducible repeat(first|apply Kd.cP|apply Kd.cQ|apply Kd.b_));exact ae.out (by first|(with_reducible assumption)|assumption)):Kd.C d w1 A xs.length xs:=(Kd.aU hd).2.2
theorem ko (h:ae (d.R e w base ok (.slice A n c) xs)):n≤c:=(Kd.aU h.out).2.1
end
section
variable {P:Program}{ops:Array Oper}{Q:Exit→Act→World→Prop}{md:Region.Mode}{S:World→Prop}{ds:List Nat}{T:Bool×List (List Nat×List Nat)}{B:List Nat}
def lb (n m:Nat):Array Bool:=((List.range n).map fun i=>m.testBit i).toArray
theorem qS {id:Nat}{a:Act}{w:World}{T:Bool×List (List Nat×List Nat)}{B:List Nat}(n:Nat) (S:World→Prop) (hT:fK .any ops=T) (hB:ep T.2 B=true) (hS:S w.drew)
    (h:S w.drew→ae (fK .any ops=T)→ae (ep T.2 B=true)→bz P .any ops Q S [] n (lb n 0) a w.drew) (hm:P.follows .mixedOrders=true:=by kernel_rfl) (hn:ops.size=n:=by exact rfl) (hl:Array.replicate n false=lb n 0:=by exact rfl):(Code.region id ops true).wp P Q a w:=
  iY (lb n 0) hm hn hl hS (fun hh=>h hh ⟨hT⟩ ⟨hB⟩)
theorem cG {n m:Nat}(i:Nat) (N:Tmp) {oi:Oper}{v:Value}{fuel:Nat}{a a':Act}{w:World}(HT:ae (fK md ops=T)) (h:bz P md ops Q S ds fuel (lb n (m|||1<<<i)) a' w) (hi:ops[i]? =some oi:=by exact rfl) (hN:oi.dst=some N:=by exact rfl)
    (hc:abk T (lb n m).toList (lb n (m|||1<<<i)).toList i=true:=by kernel_rfl) (hQ:∀c a w,Q (.panic c) (a.put oi.dst v) w→Q (.panic c) a w:=by exact fun _ _ _ h=>h) (hg:Region.wanted oi (yielded ops a.tmps)=true:=by exact rfl) (hy:∀w,(execOp a.eval oi).run P w= .ok (.value v) w:=by intro w';go_simp;with_reducible rfl)
    (ha:a.put (some N) v=a':=by simp only[Act.put,List.setIfInBounds_toArray,List.set_cons_zero,List.set_cons_succ,kn,qu];rfl):bz P md ops Q S ds (fuel+1) (lb n m) a w:=aab _ hi hN (aac HT.out hc) hQ (.inl ⟨hg,hy⟩) ha h
theorem iA {n m:Nat}(i:Nat) (N:Tmp) {oi:Oper}{v:Value}{fuel:Nat}{a a':Act}{w:World}(HT:ae (fK md ops=T)) (HW:ae (ep T.2 B=true)) (hS:S w) (h:bz P md ops Q S ds fuel (lb n (m|||1<<<i)) a' w) (hi:ops[i]? =some oi:=by exact rfl) (hN:oi.dst=some N:=by exact rfl)
    (hc:aad T B ds (lb n m).toList (lb n (m|||1<<<i)).toList i=true:=by kernel_rfl) (hQ:∀c a w,Q (.panic c) (a.put oi.dst v) w→Q (.panic c) a w:=by exact fun _ _ _ h=>h) (hg:Region.wanted oi (yielded ops a.tmps)=true:=by exact rfl)
    (hy:∀w,S w→(execOp a.eval oi).run P w= .ok (.value v) w:=by intro w' sO;(try dsimp only at sO);(repeat(have s_:=And.left sO;replace sO:=And.right sO));go_simp;with_reducible rfl)
    (ha:a.put (some N) v=a':=by simp only[Act.put,List.setIfInBounds_toArray,List.set_cons_zero,List.set_cons_succ,kn,qu];rfl):bz P md ops Q S ds (fuel+1) (lb n m) a w:=wI _ hi hN (aae HT.out HW.out hc) hQ (.inl ⟨hg,hy⟩) hS ha h
theorem jg {n m:Nat}(i:Nat) (N:Tmp) {oi:Oper}{fuel:Nat}{a:Act}{w:World}(HT:ae (fK md ops=T))
    (h:∀K:Act→World→Prop,Shut (∀a' w',S w'→(S w'→bz P md ops Q S ds fuel (lb n (m|||1<<<i)) a' w')→K a' w')→if Region.wanted oi (yielded ops a.tmps)=true then Oper.wp P oi a w K Q else K (a.put (some N) undef) w)
    (hi:ops[i]? =some oi:=by exact rfl) (hN:oi.dst=some N:=by exact rfl) (hc:(nQ T.2 (lb n m).toList==[i]&&(lb n m).toList.set i true==(lb n (m|||1<<<i)).toList)=true:=by kernel_rfl) (hd:i∉ds:=by decide):bz P md ops Q S ds (fuel+1) (lb n m) a w:=
  aaf _ hi hN (iE HT.out hc) hd h
theorem nF {n m:Nat}{fuel:Nat}{a:Act}{w:World}(HT:ae (fK md ops=T)) (h:Q .normal a w) (hr:(nQ T.2 (lb n m).toList==[])=true:=by kernel_rfl):bz P md ops Q S ds fuel (lb n m) a w:=sm (abl HT.out hr) h
theorem mo (N:Tmp) {oi:Oper}{a:Act}{w:World}{K:Act→World→Prop}{f:FuncId}{fn:Func}(hf:P.funcs[f]? =some fn) {args:Array Value}{R:Ending→World→Prop}{aa:Array Operand}{ts:Array TypeId}(h:Calls P f args w R)
    (hn:∀e w',R e w'→∃v,e= .returned v∧K (a.put (some N) v) w') (hop:oi.op= .call {callee:= .value (.func f),args:=aa,argTypes:=ts}:=by exact rfl) (hargs:aa.map a.eval=args:=by(try simp only[List.map_toArray,List.map_cons,List.map_nil]);first|done|rfl|(simp only[List.length_drop,List.length_take];rfl)) (hw:Region.wanted oi (yielded ops a.tmps)=true:=by exact rfl) (hd:oi.dst=some N:=by exact rfl)
    (hname:(fn.name== "runtime.NumGoroutine")=false:=by kernel_rfl) (hb:fn.body.isSome=true:=by exact rfl):
    if Region.wanted oi (yielded ops a.tmps)=true then Oper.wp P oi a w K Q else K (a.put (some N) undef) w:=sn hf hname hb args hw hd hop hargs (h.mono hn)
theorem aZ {K W:Act→World→Prop}{S:World→Prop}(hK:Shut (∀a w,S w→(S w→W a w)→K a w)) (N:Tmp) {a a':Act}{v:Value}{w:World}(hS:S w) (h:S w→W a' w) (ha:a.put (some N) v=a':=by simp only[Act.put,List.setIfInBounds_toArray,List.set_cons_zero,List.set_cons_succ,kn,qu];rfl):K (a.put (some N) v) w:=by
  rw[ha];exact hK.out _ _ hS h
end

theorem oP {g:Nat}{cs cs':Array Value}{t:TypeId}{w w1:World}(_:ae (w.heap[g]? =some (.cells cs t (0,0)))) (hd:w1.heap[g]? =some (.cells cs' t (0,0)):=by(repeat(first|(with_reducible first|refine bm ?_ _|refine ar ?_|refine ax ?_ _)|(apply cF;rotate_left;exact ae.out (by with_reducible assumption);rotate_right)|apply oq));(first|exact ae.out (by with_reducible assumption)|exact ae.out (by assumption));(all_goals exact rfl)):w1.heap[g]? =some (.cells cs' t (0,0)):=hd
theorem mc {g:Nat}{cs:Array Value}{t:TypeId}{w w1 w2:World}(cs':Array Value) (_:ae (w.heap[g]? =some (.cells cs t (0,0)))) (hb:Below w1.heap.size w1 w2) (hd:w1.heap[g]? =some (.cells cs' t (0,0)):=by(repeat(first|(with_reducible first|refine bm ?_ _|refine ar ?_|refine ax ?_ _)|(apply cF;rotate_left;exact ae.out (by with_reducible assumption);rotate_right)|apply oq));(first|exact ae.out (by with_reducible assumption)|exact ae.out (by assumption));(all_goals exact rfl)):ae (w2.heap[g]? =some (.cells cs' t (0,0))):=⟨mq hd hb⟩
theorem kw_ {g:Nat}{o:Obj}{w w1 w2:World}(hW:w1=w2) (_:ae (w.heap[g]? =some o)) (hd:w1.heap[g]? =some o:=by(repeat(first|(with_reducible first|refine bm ?_ _|refine ar ?_|refine ax ?_ _)|refine cF ?_ (ae.out (by with_reducible assumption)) _));exact ae.out (by first|(with_reducible assumption)|assumption)):ae (w2.heap[g]? =some o):=⟨hW▸hd⟩
theorem kv_ {g:Nat}{cs:Array Value}{t:TypeId}{w w1 w2:World}(cs':Array Value) (hW:w1=w2) (_:ae (w.heap[g]? =some (.cells cs t (0,0)))) (hd:w1.heap[g]? =some (.cells cs' t (0,0)):=by(repeat(first|(with_reducible first|refine bm ?_ _|refine ar ?_|refine ax ?_ _)|(apply cF;rotate_left;exact ae.out (by with_reducible assumption);rotate_right)|apply oq));(first|exact ae.out (by with_reducible assumption)|exact ae.out (by assumption));(all_goals exact rfl)):ae (w2.heap[g]? =some (.cells cs' t (0,0))):=⟨hW▸hd⟩
theorem hw_ {w w0 w1 w2:World}(hW:w1=w2) (_:ae (Below w.heap.size w w0)) (hd:Below w.heap.size w w1:=by repeat(first|(with_reducible first|exact HB.out|apply ew|apply d_|apply bl|refine bs_ ?_ (by with_reducible assumption))|exact HB.out)):ae (Below w.heap.size w w2):=⟨hW▸hd⟩
section
variable {P:Program}{ops:Array Oper}{Q:Exit→Act→World→Prop}{md:Region.Mode}{S:World→Prop}{ds:List Nat}{T:Bool×List (List Nat×List Nat)}{B:List Nat}
theorem iM {n m:Nat}(i:Nat) (N:Tmp) {oi:Oper}{fuel:Nat}{a a':Act}{w:World}(HT:ae (fK md ops=T)) (h:bz P md ops Q S ds fuel (lb n (m|||1<<<i)) a' w) (hi:ops[i]? =some oi:=by exact rfl) (hN:oi.dst=some N:=by exact rfl)
    (hc:abk T (lb n m).toList (lb n (m|||1<<<i)).toList i=true:=by kernel_rfl) (hQ:∀c a w,Q (.panic c) (a.put oi.dst undef) w→Q (.panic c) a w:=by exact fun _ _ _ h=>h) (hg:Region.wanted oi (yielded ops a.tmps)=false:=by exact rfl)
    (ha:a.put (some N) undef=a':=by simp only[Act.put,List.setIfInBounds_toArray,List.set_cons_zero,List.set_cons_succ,kn,qu];rfl):bz P md ops Q S ds (fuel+1) (lb n m) a w:=aab _ hi hN (aac HT.out hc) hQ (.inr ⟨hg,rfl⟩) ha h
theorem p0_ {n m:Nat}(i:Nat) (N:Tmp) {oi:Oper}{v:Value}{fuel:Nat}{a a':Act}{w:World}(h:bz P md ops Q S ds fuel (lb n (m|||1<<<i)) a' w) (hi:ops[i]? =some oi:=by exact rfl) (hN:oi.dst=some N:=by exact rfl)
    (hc:aag md ops (lb n m) (lb n (m|||1<<<i)) i=true:=by kernel_rfl) (hQ:∀c a w,Q (.panic c) (a.put oi.dst v) w→Q (.panic c) a w:=by exact fun _ _ _ h=>h) (hg:Region.wanted oi (yielded ops a.tmps)=true:=by exact rfl) (hy:∀w,(execOp a.eval oi).run P w= .ok (.value v) w:=by intro w';go_simp;with_reducible rfl)
    (ha:a.put (some N) v=a':=by simp only[Act.put,List.setIfInBounds_toArray,List.set_cons_zero,List.set_cons_succ,kn,qu];rfl):bz P md ops Q S ds (fuel+1) (lb n m) a w:=aab _ hi hN hc hQ (.inl ⟨hg,hy⟩) ha h
theorem t0_ {n m:Nat}(i:Nat) (N:Tmp) {oi:Oper}{v:Value}{fuel:Nat}{a a':Act}{w:World}(hS:S w) (h:bz P md ops Q S ds fuel (lb n (m|||1<<<i)) a' w) (hi:ops[i]? =some oi:=by exact rfl) (hN:oi.dst=some N:=by exact rfl)
    (hc:takeB md ops ds (lb n m) (lb n (m|||1<<<i)) i=true:=by kernel_rfl) (hQ:∀c a w,Q (.panic c) (a.put oi.dst v) w→Q (.panic c) a w:=by exact fun _ _ _ h=>h) (hg:Region.wanted oi (yielded ops a.tmps)=true:=by exact rfl)
    (hy:∀w,S w→(execOp a.eval oi).run P w= .ok (.value v) w:=by intro w' sO;(try dsimp only at sO);(repeat(have s_:=And.left sO;replace sO:=And.right sO));go_simp;with_reducible rfl)
    (ha:a.put (some N) v=a':=by simp only[Act.put,List.setIfInBounds_toArray,List.set_cons_zero,List.set_cons_succ,kn,qu];rfl):bz P md ops Q S ds (fuel+1) (lb n m) a w:=wI _ hi hN hc hQ (.inl ⟨hg,hy⟩) hS ha h
theorem wJ {n m:Nat}(i:Nat) (N:Tmp) {oi:Oper}{fuel:Nat}{a:Act}{w:World}
    (h:∀K:Act→World→Prop,Shut (∀a' w',S w'→(S w'→bz P md ops Q S ds fuel (lb n (m|||1<<<i)) a' w')→K a' w')→if Region.wanted oi (yielded ops a.tmps)=true then Oper.wp P oi a w K Q else K (a.put (some N) undef) w)
    (hi:ops[i]? =some oi:=by exact rfl) (hN:oi.dst=some N:=by exact rfl) (hc:pg md ops (lb n m) (lb n (m|||1<<<i)) i=true:=by kernel_rfl) (hd:i∉ds:=by decide):bz P md ops Q S ds (fuel+1) (lb n m) a w:=aaf _ hi hN hc hd h
theorem s0_ {id:Nat}{a:Act}{w:World}(n:Nat) (S:World→Prop) (hS:S w.drew) (h:S w.drew→bz P .any ops Q S [] n (lb n 0) a w.drew) (hm:P.follows .mixedOrders=true:=by kernel_rfl) (hn:ops.size=n:=by exact rfl) (hl:Array.replicate n false=lb n 0:=by exact rfl):(Code.region id ops true).wp P Q a w:=
  iY (lb n 0) hm hn hl hS h
end

section
variable {α:Type}{d:Kd α}{e base n g t g2 t2:Nat}{ok:Nat→Prop}{cs cs2:Array Value}{w w1 w2:World}{A:Option Addr}{c:Nat}{u v:Value}{xs:List α}
theorem vu {j:Nat}(h:Kd.R d e w base (fun k=>ok k∧k≠g) u xs):Kd.R d e (w.setCell ⟨g,j,none⟩ v) base (fun k=>ok k∧k≠g) u xs:=Kd.bn h (fun _ hk=>hk.2) v
theorem sP {j:Nat}(h:Kd.R d e w base (fun k=>(ok k∧k≠g)∧k≠g2) u xs):Kd.R d e (w.setCell ⟨g2,j,none⟩ v) base (fun k=>(ok k∧k≠g)∧k≠g2) u xs:=Kd.bn h (fun _ hk=>hk.2) v
theorem sQ {j:Nat}(h:Kd.R d e w base (fun k=>(ok k∧k≠g)∧k≠g2) u xs):Kd.R d e (w.setCell ⟨g,j,none⟩ v) base (fun k=>(ok k∧k≠g)∧k≠g2) u xs:=Kd.bn h (fun _ hk=>hk.1.2) v
theorem wK (h:ae (Kd.R d e w base ok u xs)) (hd:Kd.R d e w base ok u xs→Kd.R d e w1 base ok u xs:=by intro h_;(repeat(first|(with_reducible first|exact h_|apply Kd.cP|apply Kd.cQ|apply Kd.b_)))):Kd.R d e w1 base ok u xs:=(hd h.out)
theorem ni (h:ae (Kd.R d e w base ok u xs)) (hb:Below w1.heap.size w1 w2) (hd:Kd.R d e w base ok u xs→Kd.R d e w1 base ok u xs:=by intro h_;(repeat(first|(with_reducible first|exact h_|apply Kd.cP|apply Kd.cQ|apply Kd.b_)))):ae (Kd.R d e w2 base ok u xs):=⟨Kd.jq (hd h.out) hb⟩
theorem vp (h:ae (Kd.R d e w base ok u xs)) (b:ae (w.heap[g]? =some (.cells cs t (0,0)))) (ht:∀q,q∈e::d.E→q≠t:=by decide) (hd:Kd.R d e w base (fun k=>ok k∧k≠g) u xs→Kd.R d e w1 base (fun k=>ok k∧k≠g) u xs:=by intro h_;(repeat(first|(with_reducible first|exact h_|apply Kd.cP|apply Kd.cQ|apply Kd.b_)|apply vu))):Kd.R d e w1 base ok u xs:=(Kd.aM (hd (Kd.ay h.out b.out ht)) (fun _ h_=>h_.1))
theorem eN (h:ae (Kd.R d e w base ok u xs)) (b:ae (w.heap[g]? =some (.cells cs t (0,0)))) (ht:∀q,q∈e::d.E→q≠t:=by decide) (hd:Kd.R d e w base (fun k=>ok k∧k≠g) u xs→Kd.R d e w1 base (fun k=>ok k∧k≠g) u xs:=by intro h_;(repeat(first|(with_reducible first|exact h_|apply Kd.cP|apply Kd.cQ|apply Kd.b_)|apply vu))):∀k,u.ownBlock=some k→k<w1.heap.size:=Kd.abj (Kd.aM (hd (Kd.ay h.out b.out ht)) (fun _ h_=>h_.1))
theorem du (h:ae (Kd.R d e w base ok u xs)) (b:ae (w.heap[g]? =some (.cells cs t (0,0)))) (hb:Below w1.heap.size w1 w2) (ht:∀q,q∈e::d.E→q≠t:=by decide) (hd:Kd.R d e w base (fun k=>ok k∧k≠g) u xs→Kd.R d e w1 base (fun k=>ok k∧k≠g) u xs:=by intro h_;(repeat(first|(with_reducible first|exact h_|apply Kd.cP|apply Kd.cQ|apply Kd.b_)|apply vu))):ae (Kd.R d e w2 base ok u xs):=⟨Kd.jq (Kd.aM (hd (Kd.ay h.out b.out ht)) (fun _ h_=>h_.1)) hb⟩
theorem qZ (h:ae (Kd.R d e w base ok u xs)) (b:ae (w.heap[g]? =some (.cells cs t (0,0)))) (hv:∀k,v.ownBlock=some k→w1.heap.size≤k) (hb:Below w1.heap.size w1 w2) (ht:∀q,q∈e::d.E→q≠t:=by decide) (hd:Kd.R d e w base (fun k=>ok k∧k≠g) u xs→Kd.R d e w1 base (fun k=>ok k∧k≠g) u xs:=by intro h_;(repeat(first|(with_reducible first|exact h_|apply Kd.cP|apply Kd.cQ|apply Kd.b_)|apply vu))):ae (Kd.R d e w2 base (fun k=>ok k∧some k≠v.ownBlock) u xs):=⟨Kd.q_ (Kd.aM (hd (Kd.ay h.out b.out ht)) (fun _ h_=>h_.1)) hv hb⟩
theorem lg (h:ae (Kd.R d e w base ok (.slice A n c) xs)) (b:ae (w.heap[g]? =some (.cells cs t (0,0)))) (ht:∀q,q∈e::d.E→q≠t:=by decide) (hd:Kd.R d e w base (fun k=>ok k∧k≠g) (.slice A n c) xs→Kd.R d e w1 base (fun k=>ok k∧k≠g) (.slice A n c) xs:=by intro h_;(repeat(first|(with_reducible first|exact h_|apply Kd.cP|apply Kd.cQ|apply Kd.b_)|apply vu))):Kd.C d w1 A xs.length xs:=(Kd.aU (Kd.aM (hd (Kd.ay h.out b.out ht)) (fun _ h_=>h_.1))).2.2
theorem nR2 (h:ae (Kd.R d e w base ok u xs)) (g:Nat) (hm:∀k,ok k→k≠g) (hd:Kd.R d e w base (fun k=>ok k∧k≠g) u xs→Kd.R d e w1 base (fun k=>ok k∧k≠g) u xs:=by intro h_;(repeat(first|(with_reducible first|exact h_|apply Kd.cP|apply Kd.cQ|apply Kd.b_)|apply vu))):Kd.R d e w1 base ok u xs:=(Kd.aM (hd (Kd.aM h.out (fun _ hk=>⟨hk,hm _ hk⟩))) (fun _ h_=>h_.1))
theorem aah (h:ae (Kd.R d e w base ok u xs)) (b:ae (w.heap[g]? =some (.cells cs t (0,0)))) (b2:ae (w.heap[g2]? =some (.cells cs2 t2 (0,0)))) (ht:∀q,q∈e::d.E→q≠t:=by decide) (ht2:∀q,q∈e::d.E→q≠t2:=by decide) (hd:Kd.R d e w base (fun k=>(ok k∧k≠g)∧k≠g2) u xs→Kd.R d e w1 base (fun k=>(ok k∧k≠g)∧k≠g2) u xs:=by intro h_;(repeat(first|(with_reducible first|exact h_|apply Kd.cP|apply Kd.cQ|apply Kd.b_|apply sP|apply sQ)|apply sP|apply sQ))):∀k,u.ownBlock=some k→k<w1.heap.size:=Kd.abj (Kd.aM (hd (Kd.ay (Kd.ay h.out b.out ht) b2.out ht2)) (fun _ h_=>h_.1.1))
theorem vv (h:ae (Kd.R d e w base ok u xs)) (b:ae (w.heap[g]? =some (.cells cs t (0,0)))) (b2:ae (w.heap[g2]? =some (.cells cs2 t2 (0,0)))) (hb:Below w1.heap.size w1 w2) (ht:∀q,q∈e::d.E→q≠t:=by decide) (ht2:∀q,q∈e::d.E→q≠t2:=by decide) (hd:Kd.R d e w base (fun k=>(ok k∧k≠g)∧k≠g2) u xs→Kd.R d e w1 base (fun k=>(ok k∧k≠g)∧k≠g2) u xs:=by intro h_;(repeat(first|(with_reducible first|exact h_|apply Kd.cP|apply Kd.cQ|apply Kd.b_|apply sP|apply sQ)|apply sP|apply sQ))):ae (Kd.R d e w2 base ok u xs):=⟨Kd.jq (Kd.aM (hd (Kd.ay (Kd.ay h.out b.out ht) b2.out ht2)) (fun _ h_=>h_.1.1)) hb⟩
theorem ac1 (h:ae (Kd.R d e w base ok u xs)) (b:ae (w.heap[g]? =some (.cells cs t (0,0)))) (b2:ae (w.heap[g2]? =some (.cells cs2 t2 (0,0)))) (hv:∀k,v.ownBlock=some k→w1.heap.size≤k) (hb:Below w1.heap.size w1 w2) (ht:∀q,q∈e::d.E→q≠t:=by decide) (ht2:∀q,q∈e::d.E→q≠t2:=by decide) (hd:Kd.R d e w base (fun k=>(ok k∧k≠g)∧k≠g2) u xs→Kd.R d e w1 base (fun k=>(ok k∧k≠g)∧k≠g2) u xs:=by intro h_;(repeat(first|(with_reducible first|exact h_|apply Kd.cP|apply Kd.cQ|apply Kd.b_|apply sP|apply sQ)|apply sP|apply sQ))):ae (Kd.R d e w2 base (fun k=>ok k∧some k≠v.ownBlock) u xs):=⟨Kd.q_ (Kd.aM (hd (Kd.ay (Kd.ay h.out b.out ht) b2.out ht2)) (fun _ h_=>h_.1.1)) hv hb⟩
theorem abm (h:ae (Kd.R d e w base ok (.slice A n c) xs)) (b:ae (w.heap[g]? =some (.cells cs t (0,0)))) (b2:ae (w.heap[g2]? =some (.cells cs2 t2 (0,0)))) (ht:∀q,q∈e::d.E→q≠t:=by decide) (ht2:∀q,q∈e::d.E→q≠t2:=by decide) (hd:Kd.R d e w base (fun k=>(ok k∧k≠g)∧k≠g2) (.slice A n c) xs→Kd.R d e w1 base (fun k=>(ok k∧k≠g)∧k≠g2) (.slice A n c) xs:=by intro h_;(repeat(first|(with_reducible first|exact h_|apply Kd.cP|apply Kd.cQ|apply Kd.b_|apply sP|apply sQ)|apply sP|apply sQ))):Kd.C d w1 A xs.length xs:=(Kd.aU (Kd.aM (hd (Kd.ay (Kd.ay h.out b.out ht) b2.out ht2)) (fun _ h_=>h_.1.1))).2.2
theorem ac2 (h:ae (Kd.S d e w base ok u xs)) (hb:Below w1.heap.size w1 w2) (hd:Kd.S d e w base ok u xs→Kd.S d e w1 base ok u xs:=by intro h_;(repeat(first|(with_reducible first|exact h_|apply Kd.abn|apply Kd.abo|apply Kd.vw)))):Kd.S d e w2 base (fun k=>ok k∧k<w1.heap.size) u xs:=Kd.ac3 (hd h.out) hb
theorem ac4 {v1 v2 v3:Value}(h:Kd.S d e w1 base (fun k=>ok k∧k<n) u xs) (h1:∀k,v1.ownBlock=some k→n≤k) (h2:∀k,v2.ownBlock=some k→n≤k) (h3:∀k,v3.ownBlock=some k→n≤k):ae (Kd.S d e w1 base (fun k=>(((ok k∧some k≠v1.ownBlock)∧some k≠v2.ownBlock)∧some k≠v3.ownBlock)) u xs):=⟨Kd.kV (Kd.vx (Kd.vx (Kd.vx h h1) h2) h3) (fun _ h_=>h_.1)⟩
theorem ady {j:Nat}(h:Kd.Q d e w base (fun k=>ok k∧k≠g) u xs):Kd.Q d e (w.setCell ⟨g,j,none⟩ v) base (fun k=>ok k∧k≠g) u xs:=Kd.ac5 h (fun _ hk=>hk.2) v
theorem ac6 (h:ae (Kd.Q d e w base ok u xs)) (hb:Below w1.heap.size w1 w2) (hd:Kd.Q d e w base ok u xs→Kd.Q d e w1 base ok u xs:=by intro h_;(repeat(first|(with_reducible first|exact h_|apply Kd.wL|apply Kd.wM|apply Kd.aai)))):ae (Kd.Q d e w2 base ok u xs):=⟨Kd.pw (hd h.out) hb⟩
theorem adz (h:ae (Kd.Q d e w base ok u xs)) (b:ae (w.heap[g]? =some (.cells cs t (0,0)))) (hb:Below w1.heap.size w1 w2) (ht:∀q,q∈e::d.E→q≠t:=by decide) (hd:Kd.Q d e w base (fun k=>ok k∧k≠g) u xs→Kd.Q d e w1 base (fun k=>ok k∧k≠g) u xs:=by intro h_;(repeat(first|(with_reducible first|exact h_|apply Kd.wL|apply Kd.wM|apply Kd.aai)|apply ady))):ae (Kd.Q d e w2 base ok u xs):=⟨Kd.pw (Kd.sR (hd (Kd.wN h.out b.out ht)) (fun _ h_=>h_.1)) hb⟩
theorem cf_ {a:Addr}{v:Value}{b g:Nat}(j:Nat) (u:Value) (hn:b≠g) (h:w.cell? a=some v) (he:a.block=b:=by first|exact add_block _ _|rfl):(w.setCell ⟨g,j,none⟩ u).cell? a=some v:=(cell_far (p:=⟨g,j,none⟩) (he▸hn) u).trans h
end

section
variable {α:Type}{d:Kd α}{e base n g gb:Nat}{ok:Nat→Prop}{o:Obj}{w w0 W0 W W2:World}{A:Option Addr}{c:Nat}{u v:Value}{xs:List α}{row:Option Nat}
theorem mR (h:ae (Kd.R d e w base ok u xs)) (hd:Kd.R d e w base ok u xs→Kd.R d e W base ok u xs:=by intro h_;(repeat(first|(with_reducible first|exact h_|apply Kd.cP|apply Kd.cQ|apply Kd.b_)))):Kd.R d e W base (fun _=>True) u xs:=Kd.aM (hd h.out) (fun _ _=>trivial)
theorem hB (_:ae (Below w.heap.size w W0)) (hb:Below W.heap.size W W2) (h:Below w.heap.size w W:=by repeat(first|(with_reducible first|exact HB.out|apply ew|apply d_|apply bl|refine bs_ ?_ (by with_reducible assumption))|exact HB.out)):ae (Below w.heap.size w W2):=⟨gr h hb⟩
theorem fB {k:Nat}(_:ae (w.heap[gb]? =some o)) (hk:W.heap.size≤k) (hd:W.heap[gb]? =some o:=by(repeat(first|(with_reducible first|refine bm ?_ _|refine ar ?_|refine ax ?_ _)|refine cF ?_ (ae.out (by with_reducible assumption)) _));exact ae.out (by first|(with_reducible assumption)|assumption)):k≠gb:=Kd.cM hd k hk
theorem iF (_:ae (w.heap[gb]? =some o)) (hg:W.grownBy W2 row) (hne:some gb≠row) (hd:W.heap[gb]? =some o:=by(repeat(first|(with_reducible first|refine bm ?_ _|refine ar ?_|refine ax ?_ _)|refine cF ?_ (ae.out (by with_reducible assumption)) _));exact ae.out (by first|(with_reducible assumption)|assumption)):ae (W2.heap[gb]? =some o):=⟨lq hd hg hne⟩
theorem bp_ {cs:Array Value}{t:TypeId}(cs':Array Value) (_:ae (w.heap[gb]? =some (.cells cs t (0,0)))) (hg:W.grownBy W2 row) (hne:some gb≠row) (hd:W.heap[gb]? =some (.cells cs' t (0,0)):=by(repeat(first|(with_reducible first|refine bm ?_ _|refine ar ?_|refine ax ?_ _)|(apply cF;rotate_left;exact ae.out (by with_reducible assumption);rotate_right)|apply oq));(first|exact ae.out (by with_reducible assumption)|exact ae.out (by assumption));(all_goals exact rfl)):ae (W2.heap[gb]? =some (.cells cs' t (0,0))):=⟨lq hd hg hne⟩
theorem nM {cs:Array Value}{t:TypeId}{w1:World}(h:ae (Kd.R d e w base ok u xs)) (b:ae (w.heap[g]? =some (.cells cs t (0,0)))) (ht:∀q,q∈e::d.E→q≠t:=by decide) (hd:Kd.R d e w base (fun k=>ok k∧k≠g) u xs→Kd.R d e w1 base (fun k=>ok k∧k≠g) u xs:=by intro h_;(repeat(first|(with_reducible first|exact h_|apply Kd.cP|apply Kd.cQ|apply Kd.b_|apply vu)))):Kd.R d e w1 base (fun _=>True) u xs:=Kd.aM (hd (Kd.ay h.out b.out ht)) (fun _ _=>trivial)
theorem nO {cs cs2:Array Value}{t t2 g2:Nat}{w1:World}(h:ae (Kd.R d e w base ok u xs)) (b:ae (w.heap[g]? =some (.cells cs t (0,0)))) (b2:ae (w.heap[g2]? =some (.cells cs2 t2 (0,0)))) (ht:∀q,q∈e::d.E→q≠t:=by decide) (ht2:∀q,q∈e::d.E→q≠t2:=by decide) (hd:Kd.R d e w base (fun k=>(ok k∧k≠g)∧k≠g2) u xs→Kd.R d e w1 base (fun k=>(ok k∧k≠g)∧k≠g2) u xs:=by intro h_;(repeat(first|(with_reducible first|exact h_|apply Kd.cP|apply Kd.cQ|apply Kd.b_|apply sP|apply sQ)))):Kd.R d e w1 base (fun _=>True) u xs:=Kd.aM (hd (Kd.ay (Kd.ay h.out b.out ht) b2.out ht2)) (fun _ _=>trivial)
theorem kz (_:ae (aI w W0 g none)) (h:aI w W g none:=by repeat(first|(with_reducible first|exact HK.out|apply aI.tR|apply js|apply fH|apply lv|refine cu ?_ (ae.out (by with_reducible assumption)) _)|exact HK.out)):w.heap.size≤W.heap.size:=h.1
theorem ra (_:ae (aI w W0 g none)) (h:aI w W g none:=by repeat(first|(with_reducible first|exact HK.out|apply aI.tR|apply js|apply fH|apply lv|refine cu ?_ (ae.out (by with_reducible assumption)) _)|exact HK.out)):aI w W g none:=h
theorem hk1 (_:ae (aI w W0 g none)) (hb:Below W.heap.size W W2) (h:aI w W g none:=by repeat(first|(with_reducible first|exact HK.out|apply aI.tR|apply js|apply fH|apply lv|refine cu ?_ (ae.out (by with_reducible assumption)) _)|exact HK.out)):ae (aI w W2 g none):=⟨h.trans (aI.of_below hb g none) (.inl rfl)⟩
theorem hk2 (_:ae (aI w W0 g none)) (hk:aI W W2 g none) (h:aI w W g none:=by repeat(first|(with_reducible first|exact HK.out|apply aI.tR|apply js|apply fH|apply lv|refine cu ?_ (ae.out (by with_reducible assumption)) _)|exact HK.out)):ae (aI w W2 g none):=⟨h.trans hk (.inl rfl)⟩
theorem gw_ (hg:gb=W.heap.size) (_:ae (aI w W0 g none)) (h:aI w W g none:=by repeat(first|(with_reducible first|exact HK.out|apply aI.tR|apply js|apply fH|apply lv|refine cu ?_ (ae.out (by with_reducible assumption)) _)|exact HK.out)):ae (w.heap.size≤gb):=⟨hg▸h.1⟩
theorem ge_ {a b c:Nat}(h:ae (a≤b)) (k:ae (b≤c)):ae (a≤c):=⟨Nat.le_trans h.out k.out⟩
theorem iL (_:ae (w.heap[gb]? =some o)) (hk:aI W W2 g none) (hn:ae (gb≠g)) (hd:W.heap[gb]? =some o:=by(repeat(first|(with_reducible first|refine bm ?_ _|refine ar ?_|refine ax ?_ _)|refine cF ?_ (ae.out (by with_reducible assumption)) _));exact ae.out (by first|(with_reducible assumption)|assumption)):ae (W2.heap[gb]? =some o):=⟨hk.blk hd hn.out (by simp)⟩
theorem kq_ {cs:Array Value}{t:TypeId}(cs':Array Value) (_:ae (w.heap[gb]? =some (.cells cs t (0,0)))) (hk:aI W W2 g none) (hn:ae (gb≠g)) (hd:W.heap[gb]? =some (.cells cs' t (0,0)):=by(repeat(first|(with_reducible first|refine bm ?_ _|refine ar ?_|refine ax ?_ _)|(apply cF;rotate_left;exact ae.out (by with_reducible assumption);rotate_right)|apply oq));(first|exact ae.out (by with_reducible assumption)|exact ae.out (by assumption));(all_goals exact rfl)):ae (W2.heap[gb]? =some (.cells cs' t (0,0))):=⟨hk.blk hd hn.out (by simp)⟩
end

theorem dw {α:Type}{p:Prop} [d:Decidable p] {x:Option α}{r:α}(h:(if p then x else none)=some r):decide p=true∧x=some r:=by
  rcases kU h with h|⟨_,h⟩
  · exact h
  · cases h
theorem jm {α:Type}{p:Prop} [d:Decidable p] {x:Option α}{r:α}(h:(if p then x else none)=some r):p∧x=some r:=⟨of_decide_eq_true (dw h).1,(dw h).2⟩
theorem am {p:Prop}(h:p):ae p:=⟨h⟩

theorem oY {p:Prop}(h:p:=by first|(rw[cx];with_reducible exact H)|(have H2_:=(Option.bind_some _ _).symm.trans H;rw[cx];with_reducible exact H2_)|(have H2_:=(Option.bind_some _ _).symm.trans H;with_reducible exact H2_)|with_reducible exact H|(rw[cx];exact H)|exact H):p:=h

section
variable {α:Type}{d:Kd α}{e base n:Nat}{ok:Nat→Prop}{w w1:World}{A:Option Addr}{c:Nat}{v:Value}{xs:List α}
end

theorem rk {α:Type}{d:Kd α}{e:Nat}{w w':World}{base:Nat}{ok S:Nat→Prop}{v:Value}{xs:List α}(h:ae (Kd.R d e w base ok v xs)) (hk:Kept w w' S) (hn:∀k,ok k→¬S k):ae (Kd.R d e w' base ok v xs):=⟨Kd.aaj h.out hk hn⟩
section
variable {α:Type}{d:Kd α}{e base n:Nat}{ok S:Nat→Prop}{w w1:World}{A:Option Addr}{c:Nat}{v:Value}{xs:List α}
end
theorem tS:∀(x y:List UInt8),(!Op.bytesLess x y&& !(x==y))=Op.bytesLess y x
  |[],[]=>rfl
  |_::_,[]=>by simp[Op.bytesLess]
  |[],_::_=>by simp[Op.bytesLess]
  |a::x,b::y=>by
    have ih:=tS x y
    by_cases h2:a=b
    · subst h2;simp only[Op.bytesLess,UInt8.lt_irrefl,decide_false,Bool.false_or,beq_self_eq_true,Bool.true_and,List.cons_beq_cons];exact ih
    · have h3:(a==b)=false:=by simpa using h2
      have h4:(b==a)=false:=by simpa using fun h=>h2 h.symm
      by_cases h1:a<b
      · have h5:¬b<a:=UInt8.lt_asymm h1;simp[Op.bytesLess,h1,h3,h4,h5]
      · have h5:b<a:=UInt8.lt_of_le_of_ne (UInt8.not_lt.1 h1) (fun h=>h2 h.symm);simp[Op.bytesLess,h1,h3,h4,h5]



def ac7:Option Int→Value
  |none=> .nilIface
  |some c=> .iface 0 (.int .i64 c)
theorem iv:ac7 none= .nilIface:=rfl
theorem iw (c:Int):ac7 (some c)= .iface 0 (.int .i64 c):=rfl

theorem info3:(Tryz.prog.info? 3).map (fun i=>(i.zero,i.size,i.bytes))=some (some (.int .i64 0),1,8):=by kernel_rfl
theorem info5:(Tryz.prog.info? 5).map (fun i=>(i.zero,i.size,i.bytes))=some (some (.int .u8 0),1,1):=by kernel_rfl
theorem info9:(Tryz.prog.info? 9).map (fun i=>(i.zero,i.size,i.bytes))=some (some (.string ⟨#[]⟩),1,16):=by kernel_rfl
theorem jz:(Tryz.prog.info? 32).map (fun i=>(i.zero,i.size,i.bytes))=some (some (.agg #[(.int .i64 0),(.int .i64 0),(.int .i64 0),(.slice none 0 0),(.slice none 0 0),(.slice none 0 0)]),6,96):=by kernel_rfl
theorem nj:(Tryz.prog.info? 74).map (fun i=>(i.zero,i.size,i.bytes))=some (some (.agg #[(.string ⟨#[]⟩),(.int .i64 0)]),2,24):=by kernel_rfl
theorem lh:(Tryz.prog.info? 101).map (fun i=>(i.zero,i.size,i.bytes))=some (some (.agg #[(.string ⟨#[]⟩),(.string ⟨#[]⟩)]),2,32):=by kernel_rfl
-- the values' own types
/-! #### struct type 74 -/
structure cD where
  f0:ByteArray
  f1:Int
def z74:cD:=⟨(⟨#[]⟩:ByteArray),(0:Int)⟩
def fL:Kd cD:=Kd.iso (Kd.pair Kd.string (Kd.int .i64)) (fun x:cD=>(x.f0,x.f1))
theorem aak {w:World}{x:cD}{cs:List Value}(h:fL.K w x cs):cs=[.string x.f0,.int .i64 x.f1]:=by
  obtain⟨_,_,rfl,rfl,rfl⟩:=h;exact rfl
theorem lr {w:World}{base:Nat}{ok:Nat→Prop}{x:cD}{cs:List Value}(h:fL.M w base ok x cs):cs=[.string x.f0,.int .i64 x.f1]:=by
  obtain⟨_,_,rfl,rfl,rfl⟩:=h;exact rfl
theorem ll (w:World) (base:Nat) (ok:Nat→Prop) (x:cD):fL.M w base ok x [.string x.f0,.int .i64 x.f1]:=⟨[.string x.f0],[.int .i64 x.f1],rfl,rfl,rfl⟩
def aA (xs:List cD) (i:Int):cD:=xs.getD i.toNat z74
theorem ec {w:World}{A:Option Addr}{n:Nat}{xs:List cD}(h:Kd.C fL w A n xs) (i:Int) (h0:0≤i) (h1:i<n):∃ad,A=some ad∧w.cell? (ad.add (i.toNat*2))=some (.string (aA xs i).f0)∧w.cell? ⟨(ad.add (i.toNat*2)).block,(ad.add (i.toNat*2)).off+1,none⟩=some (.int .i64 (aA xs i).f1):=by
  obtain⟨ad,c,e,_,hK,hc0⟩:=Kd.rb h z74 i h0 h1;have hc:∀j u,c[j]? =some u→w.cell? (ad.add (i.toNat*2+j))=some u:=hc0;obtain rfl:=aak hK;exact⟨ad,e,hc 0 _ rfl,by rw[←kt _ _ 1 (by omega)];exact hc 1 _ rfl⟩
theorem ph {w W:World}{A:Option Addr}{n:Nat}{xs:List cD}(h:ae (Kd.C fL w A n xs)) (hb:ae (Below w.heap.size w W)) (i:Int) (h0:0≤i) (h1:i<n):∃ad,A=some ad∧W.cell? (ad.add (i.toNat*2))=some (.string (aA xs i).f0)∧W.cell? ⟨(ad.add (i.toNat*2)).block,(ad.add (i.toNat*2)).off+1,none⟩=some (.int .i64 (aA xs i).f1):=by
  obtain⟨ad,h0_,h1_,h2_⟩:=ec h.out i h0 h1;exact⟨ad,h0_,cB hb h1_,cB hb h2_⟩

/-! #### struct type 101 -/
structure bj where
  f0:ByteArray
  f1:ByteArray
def oU:bj:=⟨(⟨#[]⟩:ByteArray),(⟨#[]⟩:ByteArray)⟩
def dn:Kd bj:=Kd.iso (Kd.pair Kd.string Kd.string) (fun x:bj=>(x.f0,x.f1))
theorem xn {w:World}{x:bj}{cs:List Value}(h:dn.K w x cs):cs=[.string x.f0,.string x.f1]:=by
  obtain⟨_,_,rfl,rfl,rfl⟩:=h;exact rfl
theorem ku {w:World}{base:Nat}{ok:Nat→Prop}{x:bj}{cs:List Value}(h:dn.M w base ok x cs):cs=[.string x.f0,.string x.f1]:=by
  obtain⟨_,_,rfl,rfl,rfl⟩:=h;exact rfl
theorem kb (w:World) (base:Nat) (ok:Nat→Prop) (x:bj):dn.M w base ok x [.string x.f0,.string x.f1]:=⟨[.string x.f0],[.string x.f1],rfl,rfl,rfl⟩
def bf (xs:List bj) (i:Int):bj:=xs.getD i.toNat oU
theorem ed {w:World}{A:Option Addr}{n:Nat}{xs:List bj}(h:Kd.C dn w A n xs) (i:Int) (h0:0≤i) (h1:i<n):∃ad,A=some ad∧w.cell? (ad.add (i.toNat*2))=some (.string (bf xs i).f0)∧w.cell? ⟨(ad.add (i.toNat*2)).block,(ad.add (i.toNat*2)).off+1,none⟩=some (.string (bf xs i).f1):=by
  obtain⟨ad,c,e,_,hK,hc0⟩:=Kd.rb h oU i h0 h1;have hc:∀j u,c[j]? =some u→w.cell? (ad.add (i.toNat*2+j))=some u:=hc0;obtain rfl:=xn hK;exact⟨ad,e,hc 0 _ rfl,by rw[←kt _ _ 1 (by omega)];exact hc 1 _ rfl⟩
/-! #### struct type 32 -/
structure aW where
  f0:Int
  f1:Int
  f2:Int
  f3:(List Int)
  f4:(List cD)
  f5:(List bj)
def z32:aW:=⟨(0:Int),(0:Int),(0:Int),([]:List Int),([]:List cD),([]:List bj)⟩
def k32:Kd aW:=Kd.iso (Kd.pair (Kd.int .i64) (Kd.pair (Kd.int .i64) (Kd.pair (Kd.int .i64) (Kd.pair (Kd.slice 5 (Kd.int .u8)) (Kd.pair (Kd.slice 74 fL) (Kd.slice 101 dn)))))) (fun x:aW=>(x.f0,x.f1,x.f2,x.f3,x.f4,x.f5))
theorem nR {w:World}{x:aW}{cs:List Value}(h:k32.K w x cs):∃A3 c3 A4 c4 A5 c5,cs=[.int .i64 x.f0,.int .i64 x.f1,.int .i64 x.f2,.slice A3 x.f3.length c3,.slice A4 x.f4.length c4,.slice A5 x.f5.length c5]∧x.f3.length≤c3∧(Kd.int .u8).C w A3 x.f3.length x.f3∧x.f4.length≤c4∧fL.C w A4 x.f4.length x.f4∧x.f5.length≤c5∧dn.C w A5 x.f5.length x.f5:=by
  obtain⟨_,_,rfl,rfl,⟨_,_,rfl,rfl,⟨_,_,rfl,rfl,⟨_,_,rfl,⟨A3,c3,rfl,l3,g3⟩,⟨_,_,rfl,⟨A4,c4,rfl,l4,g4⟩,⟨A5,c5,rfl,l5,g5⟩⟩⟩⟩⟩⟩:=h;exact⟨A3,c3,A4,c4,A5,c5,rfl,l3,g3,l4,g4,l5,g5⟩
theorem acd (w:World) (x:aW) {A3:Option Addr}{c3:Nat}(l3:x.f3.length≤c3) (g3:(Kd.int .u8).C w A3 x.f3.length x.f3) {A4:Option Addr}{c4:Nat}(l4:x.f4.length≤c4) (g4:fL.C w A4 x.f4.length x.f4) {A5:Option Addr}{c5:Nat}(l5:x.f5.length≤c5) (g5:dn.C w A5 x.f5.length x.f5):k32.K w x [.int .i64 x.f0,.int .i64 x.f1,.int .i64 x.f2,.slice A3 x.f3.length c3,.slice A4 x.f4.length c4,.slice A5 x.f5.length c5]:=⟨[.int .i64 x.f0],[.int .i64 x.f1,.int .i64 x.f2,.slice A3 x.f3.length c3,.slice A4 x.f4.length c4,.slice A5 x.f5.length c5],rfl,rfl,⟨[.int .i64 x.f1],[.int .i64 x.f2,.slice A3 x.f3.length c3,.slice A4 x.f4.length c4,.slice A5 x.f5.length c5],rfl,rfl,⟨[.int .i64 x.f2],[.slice A3 x.f3.length c3,.slice A4 x.f4.length c4,.slice A5 x.f5.length c5],rfl,rfl,⟨[.slice A3 x.f3.length c3],[.slice A4 x.f4.length c4,.slice A5 x.f5.length c5],rfl,⟨A3,c3,rfl,l3,g3⟩,⟨[.slice A4 x.f4.length c4],[.slice A5 x.f5.length c5],rfl,⟨A4,c4,rfl,l4,g4⟩,⟨A5,c5,rfl,l5,g5⟩⟩⟩⟩⟩⟩
theorem sS (w:World) (base:Nat) (ok:Nat→Prop) (x:aW) {v3:Value}(g3:(Kd.int .u8).R 5 w base ok v3 x.f3) {v4:Value}(g4:fL.R 74 w base ok v4 x.f4) {v5:Value}(g5:dn.R 101 w base ok v5 x.f5):k32.M w base ok x [.int .i64 x.f0,.int .i64 x.f1,.int .i64 x.f2,v3,v4,v5]:=⟨[.int .i64 x.f0],[.int .i64 x.f1,.int .i64 x.f2,v3,v4,v5],rfl,rfl,⟨[.int .i64 x.f1],[.int .i64 x.f2,v3,v4,v5],rfl,rfl,⟨[.int .i64 x.f2],[v3,v4,v5],rfl,rfl,⟨[v3],[v4,v5],rfl,⟨v3,rfl,g3⟩,⟨[v4],[v5],rfl,⟨v4,rfl,g4⟩,⟨v5,rfl,g5⟩⟩⟩⟩⟩⟩
theorem ot {W:World}{ok:Nat→Prop}{x:aW}{cs:List Value}(h:Kd.FK k32 W ok x cs):∃A3 c3 A4 c4 A5 c5,cs=[.int .i64 x.f0,.int .i64 x.f1,.int .i64 x.f2,.slice A3 x.f3.length c3,.slice A4 x.f4.length c4,.slice A5 x.f5.length c5]∧x.f3.length≤c3∧Kd.F (Kd.int .u8) W ok A3 x.f3.length x.f3∧x.f4.length≤c4∧Kd.F fL W ok A4 x.f4.length x.f4∧x.f5.length≤c5∧Kd.F dn W ok A5 x.f5.length x.f5:=by
  obtain⟨A3,c3,A4,c4,A5,c5,rfl,l3,_,l4,_,l5,_⟩:=nR (Kd.kW h);exact⟨A3,c3,A4,c4,A5,c5,rfl,l3,(fun W' hW=>by obtain⟨A3_,c3_,A4_,c4_,A5_,c5_,he,l3_,g3_,l4_,g4_,l5_,g5_⟩:=nR (h W' hW);injection (Option.some.inj (show some (Value.slice A3 x.f3.length c3)=some (Value.slice A3_ x.f3.length c3_)from congrArg (fun l=>l[3]?) he))with ha_ _ _;rw[ha_];exact g3_),l4,(fun W' hW=>by obtain⟨A3_,c3_,A4_,c4_,A5_,c5_,he,l3_,g3_,l4_,g4_,l5_,g5_⟩:=nR (h W' hW);injection (Option.some.inj (show some (Value.slice A4 x.f4.length c4)=some (Value.slice A4_ x.f4.length c4_)from congrArg (fun l=>l[4]?) he))with ha_ _ _;rw[ha_];exact g4_),l5,(fun W' hW=>by obtain⟨A3_,c3_,A4_,c4_,A5_,c5_,he,l3_,g3_,l4_,g4_,l5_,g5_⟩:=nR (h W' hW);injection (Option.some.inj (show some (Value.slice A5 x.f5.length c5)=some (Value.slice A5_ x.f5.length c5_)from congrArg (fun l=>l[5]?) he))with ha_ _ _;rw[ha_];exact g5_)⟩
theorem px (W:World) (ok:Nat→Prop) (x:aW) {A3:Option Addr}{c3:Nat}(l3:x.f3.length≤c3) (g3:Kd.F (Kd.int .u8) W ok A3 x.f3.length x.f3) {A4:Option Addr}{c4:Nat}(l4:x.f4.length≤c4) (g4:Kd.F fL W ok A4 x.f4.length x.f4) {A5:Option Addr}{c5:Nat}(l5:x.f5.length≤c5) (g5:Kd.F dn W ok A5 x.f5.length x.f5):Kd.FK k32 W ok x [.int .i64 x.f0,.int .i64 x.f1,.int .i64 x.f2,.slice A3 x.f3.length c3,.slice A4 x.f4.length c4,.slice A5 x.f5.length c5]:=fun W2 hW=>acd W2 x l3 (g3 W2 hW) l4 (g4 W2 hW) l5 (g5 W2 hW)
def ai (xs:List aW) (i:Int):aW:=xs.getD i.toNat z32
theorem kX {w:World}{A:Option Addr}{n:Nat}{xs:List aW}(h:Kd.C k32 w A n xs) (i:Int) (h0:0≤i) (h1:i<n):∃ad A3 c3 A4 c4 A5 c5,A=some ad∧w.cell? (ad.add (i.toNat*6))=some (.int .i64 (ai xs i).f0)∧w.cell? ⟨(ad.add (i.toNat*6)).block,(ad.add (i.toNat*6)).off+1,none⟩=some (.int .i64 (ai xs i).f1)∧w.cell? ⟨(ad.add (i.toNat*6)).block,(ad.add (i.toNat*6)).off+2,none⟩=some (.int .i64 (ai xs i).f2)∧w.cell? ⟨(ad.add (i.toNat*6)).block,(ad.add (i.toNat*6)).off+3,none⟩=some (.slice A3 (ai xs i).f3.length c3)∧w.cell? ⟨(ad.add (i.toNat*6)).block,(ad.add (i.toNat*6)).off+4,none⟩=some (.slice A4 (ai xs i).f4.length c4)∧w.cell? ⟨(ad.add (i.toNat*6)).block,(ad.add (i.toNat*6)).off+5,none⟩=some (.slice A5 (ai xs i).f5.length c5)∧(ai xs i).f3.length≤c3∧(Kd.int .u8).C w A3 (ai xs i).f3.length (ai xs i).f3∧(ai xs i).f4.length≤c4∧fL.C w A4 (ai xs i).f4.length (ai xs i).f4∧(ai xs i).f5.length≤c5∧dn.C w A5 (ai xs i).f5.length (ai xs i).f5:=by
  obtain⟨ad,c,e,_,hK,hc0⟩:=Kd.rb h z32 i h0 h1;have hc:∀j u,c[j]? =some u→w.cell? (ad.add (i.toNat*6+j))=some u:=hc0;obtain⟨A3,c3,A4,c4,A5,c5,rfl,l3,g3,l4,g4,l5,g5⟩:=nR hK;exact⟨ad,A3,c3,A4,c4,A5,c5,e,hc 0 _ rfl,by rw[←kt _ _ 1 (by omega)];exact hc 1 _ rfl,by rw[←kt _ _ 2 (by omega)];exact hc 2 _ rfl,by rw[←kt _ _ 3 (by omega)];exact hc 3 _ rfl,by rw[←kt _ _ 4 (by omega)];exact hc 4 _ rfl,by rw[←kt _ _ 5 (by omega)];exact hc 5 _ rfl,l3,g3,l4,g4,l5,g5⟩
theorem kd {w W:World}{A:Option Addr}{n:Nat}{xs:List aW}(h:ae (Kd.C k32 w A n xs)) (hb:ae (Below w.heap.size w W)) (i:Int) (h0:0≤i) (h1:i<n):∃ad A3 c3 A4 c4 A5 c5,A=some ad∧W.cell? (ad.add (i.toNat*6))=some (.int .i64 (ai xs i).f0)∧W.cell? ⟨(ad.add (i.toNat*6)).block,(ad.add (i.toNat*6)).off+1,none⟩=some (.int .i64 (ai xs i).f1)∧W.cell? ⟨(ad.add (i.toNat*6)).block,(ad.add (i.toNat*6)).off+2,none⟩=some (.int .i64 (ai xs i).f2)∧W.cell? ⟨(ad.add (i.toNat*6)).block,(ad.add (i.toNat*6)).off+3,none⟩=some (.slice A3 (ai xs i).f3.length c3)∧W.cell? ⟨(ad.add (i.toNat*6)).block,(ad.add (i.toNat*6)).off+4,none⟩=some (.slice A4 (ai xs i).f4.length c4)∧W.cell? ⟨(ad.add (i.toNat*6)).block,(ad.add (i.toNat*6)).off+5,none⟩=some (.slice A5 (ai xs i).f5.length c5)∧ae ((ai xs i).f3.length≤c3)∧ae ((Kd.int .u8).C w A3 (ai xs i).f3.length (ai xs i).f3)∧ae ((ai xs i).f4.length≤c4)∧ae (fL.C w A4 (ai xs i).f4.length (ai xs i).f4)∧ae ((ai xs i).f5.length≤c5)∧ae (dn.C w A5 (ai xs i).f5.length (ai xs i).f5):=by
  obtain⟨ad,A3,c3,A4,c4,A5,c5,h0_,h1_,h2_,h3_,h4_,h5_,h6_,h7_,h8_,h9_,adA,adB,adC⟩:=kX h.out i h0 h1;exact⟨ad,A3,c3,A4,c4,A5,c5,h0_,cB hb h1_,cB hb h2_,cB hb h3_,cB hb h4_,cB hb h5_,cB hb h6_,⟨h7_⟩,⟨h8_⟩,⟨h9_⟩,⟨adA⟩,⟨adB⟩,⟨adC⟩⟩

end Go.Proofs.YtkfoopcpihmbmaaGreatDoor.P
