-- Words of the kit's print, trimmed to what this seat's texts use (wip/trim.py). No condition.
import Derived.Test.YtkfoopcpihmbmaaGreatDoorWWords
import Derived.Test.YtkfoopcpihmbmaaGreatDoorWLast
namespace Go.Proofs.ab.av
open Go.RowKit
namespace Kd
def tag {α:Type}(f:Nat→Nat) (d:Kd α):Kd (α×Nat) where
 sz:=d.sz
 E:=d.E
 K:=fun w x cs=>d.K w x.1 cs
 M:=fun w base ok x cs=>d.M w base (fun k=>ok k∧f k=x.2) x.1 cs
 i_:=fun h=>d.i_ h
 iT:=fun h=>d.iT h
 iG:=fun hb h=>d.iG hb h
 fT:=fun h=>d.fT h
 eU:=fun hok h=>d.eU (fun k hk=>⟨hok k hk.1,hk.2⟩) h
 fF:=fun h=>d.eU (fun _ hk=>⟨⟨hk.1.1,hk.2⟩,hk.1.2⟩) (d.fF h)
 gz:=fun hm h=>d.gz (fun k hk=>hm k hk.1) h
 iu:=fun hb h=>d.iu hb h
def bare {α:Type}(d:Kd α):Kd α where
 sz:=d.sz
 E:=d.E
 K:=d.K
 M:=fun w base _ x cs=>d.M w base (fun _=>False) x cs
 i_:=fun h=>d.i_ h
 iT:=fun h=>d.iT h
 iG:=fun hb h=>d.iG hb h
 fT:=fun h=>d.fT h
 eU:=fun _ h=>h
 fF:=fun h=>h
 gz:=fun _ h=>d.gz (fun _ hk=>hk.elim) h
 iu:=fun hb h=>d.iu hb h
def raw (sz:Nat):Kd (List Value) where
 sz:=sz
 E:=[]
 K:=fun _ x cs=>cs=x∧cs.length=sz∧∀u∈cs,u.oneCell'=true
 M:=fun _ _ _ x cs=>cs=x∧cs.length=sz∧∀u∈cs,u.oneCell'=true
 i_:=fun h=>h.2.1
 iT:=fun h=>h.2.2
 iG:=fun _ h=>h
 fT:=fun h=>h
 eU:=fun _ h=>h
 fF:=fun h=>h
 gz:=fun _ h=>h
 iu:=fun _ h=>h
def S {α:Type}(d:Kd α) (e:Nat) (w:World) (base:Nat) (ok:Nat→Prop) (v:Value) (xs:List α):Prop:=∃f,(tag f d).R e w base ok v xs.zipIdx
section
variable {α β:Type}{d:Kd α}{d':Kd β}{e e':Nat}{w w1 W:World}{base b:Nat}{ok ok' okv oku:Nat→Prop}{u v:Value}{xs:List α}{ys:List β}
theorem acr {xs:List α}{j:Nat}{p:α}(h:xs[j]? =some p):xs.zipIdx[j]? =some (p,j):=by rw[List.getElem?_zipIdx,h,Nat.zero_add];rfl
theorem S_R (h:S d e w base ok v xs):d.R e w base ok v xs:=by
 obtain⟨f,h0,inner,ho,hr⟩:=h;rw[List.length_zipIdx]at ho;exact⟨h0,inner,ho,by have:=hr.1;rw[List.length_zipIdx]at this;exact this,fun j p hj=>d.eU (fun _ hk=>hk.1) (hr.2 j (p,j) (acr hj))⟩
theorem nq (hE:d.E=[]) (h:d.R e w base ok v xs):d.R e w base (fun k=>some k=v.ownBlock) v xs:=by
 obtain⟨h0,inner,ho,hr⟩:=h;refine⟨fun k hk=>hk.symm,inner,ho,hr.ly (fun p c hp=>d.eU (fun k hk=> ?_) (d.fF hp))⟩;obtain⟨_,_,_,q,hq,_⟩:=hk;rw[hE]at hq
 cases hq
theorem ue (d:Kd α) (e:Nat) (w:World) (base:Nat) (ok:Nat→Prop):S d e w base ok (.slice none 0 0) []:=⟨fun _=>0,er _ _ _ _ _⟩
theorem kV (h:S d e w base ok v xs) (hok:∀k,ok k→ok' k):S d e w base ok' v xs:=by
 obtain⟨f,h⟩:=h;exact⟨f,aM h hok⟩
theorem eD (h:S d e w base ok v xs):S d e w base (fun k=>ok k∧base≤k∧k<w.heap.size∧∃q,q∈e::d.E∧∃cells,w.heap[k]? =some (.cells cells q (0,0))) v xs:=by
 obtain⟨f,h⟩:=h;exact⟨f,iU h⟩
theorem acs (h:S d e w base ok v xs) (hm:∀k,ok k→w1.heap[k]? =w.heap[k]?):S d e w1 base ok v xs:=by
 obtain⟨f,h⟩:=h;exact⟨f,qb h hm⟩
theorem abx {base':Nat}(h:S d e w base ok v xs) (hb:base'≤base):S d e w base' ok v xs:=by
 obtain⟨f,h⟩:=h;exact⟨f,aq h hb⟩
theorem vG (h:S d e w base ok v xs) (hm:∀k,ok k→k<w.heap.size→w1.heap[k]? =w.heap[k]?):S d e w1 base ok v xs:=
 kV (acs (eD h) (fun k hk=>hm k hk.1 hk.2.2.1)) (fun _ hk=>hk.1)
theorem qV (h:S d e w base ok v xs) (hb:Below w.heap.size w w1):S d e w1 base ok v xs:=vG h (fun k _ hk=>hb.block k hk)
theorem abn (h:S d e w base ok v xs) (o:Obj):S d e (w.alloc o) base ok v xs:=qV h (ew (Below.refl _ _) o)
theorem vw (h:S d e w base ok v xs):S d e w.drew base ok v xs:=qV h (lx (Below.refl _ _))
theorem abo (h:S d e w base ok v xs) (m:Nat):S d e (w.drewN m) base ok v xs:=qV h (d_ (Below.refl _ _) m)
theorem qz (h:S d e w base ok v xs) {p:Addr}(hok:∀k,ok k→k≠p.block) (u:Value):S d e (w.setCell p u) base ok v xs:=vG h (fun k ho _=>Below.heap_setCell w p u k (hok k ho))
theorem acu (h:S d e w base ok v xs) {g:Nat}(hk:aI w w1 g none) (hok:∀k,ok k→k≠g):S d e w1 base ok v xs:=vG h (fun k ho hlt=>hk.2 k hlt (hok k ho) (by simp))
theorem oz (h:S d e w base ok v xs) {g t:Nat}{cells:Array Value}(hb:w.heap[g]? =some (.cells cells t (0,0))) (ht:∀q,q∈e::d.E→q≠t):S d e w base (fun k=>ok k∧k≠g) v xs:=by
 obtain⟨f,h⟩:=h;exact⟨f,ay h hb ht⟩
theorem jr (h:S d e w base ok v xs):∀k,v.ownBlock=some k→∃cells,w.heap[k]? =some (.cells cells e (0,0)):=ee (S_R h)
theorem aax (h:S d e w base ok v xs):∀k,v.ownBlock=some k→base≤k:=cL (S_R h)
theorem ac3 (h:S d e W base ok u xs) (hb:Below W.heap.size W w1):S d e w1 base (fun k=>ok k∧k<W.heap.size) u xs:=
 kV (qV (eD h) hb) (fun _ hk=>⟨hk.1,hk.2.2.1⟩)
theorem acv (h:(bare d).R e w base ok v xs):S d e w base ok v xs:=by
 obtain⟨h0,inner,ho,hr⟩:=h;refine⟨fun _=>0,h0,inner,by rw[List.length_zipIdx];exact ho,by rw[List.length_zipIdx];exact hr.1,fun j p hj=> ?_⟩;rw[List.getElem?_zipIdx,Nat.zero_add]at hj;obtain⟨x,hx,rfl⟩:=Option.map_eq_some_iff.1 hj;exact d.eU (fun _ hk=>hk.elim) (hr.2 j x hx)
theorem ac9 {f f':Nat→Nat}{zs:List (α×Nat)}(h:(tag f d).R e w base ok v zs) (hf:∀k,ok k→k<w.heap.size→f' k=f k):(tag f' d).R e w base ok v zs:=by
 obtain⟨h0,inner,ho,hr⟩:=iU h;exact⟨fun k hk=>(h0 k hk).1,inner,ho,hr.1,fun j p hj=>d.eU (fun k hk=>⟨⟨hk.1.1.1,hk.1.2⟩,(hf k hk.1.1.1 hk.1.1.2.2.1).trans hk.2⟩) (hr.2 j p hj)⟩
end
section
variable {α β:Type}{d:Kd α}{d':Kd β}{e e' g:Nat}{w w1 W:World}{base b:Nat}{ok ok' okv oku:Nat→Prop}{u v:Value}{xs:List α}{ys:List β}
theorem vH (h:S d e w base ok v xs) {t:Nat}{cells:Array Value}(hb:w.heap[g]? =some (.cells cells t (0,0))) (ht:e≠t):some g≠v.ownBlock:=ig (S_R h) hb ht
theorem pE (h:S d e w base ok v xs):∃A c,v= .slice A xs.length c:=ao (S_R h)
theorem vx {N:Nat}(h:S d e w1 base (fun k=>ok k∧k<N) u xs) (hbase:∀k,v.ownBlock=some k→N≤k):S d e w1 base (fun k=>(ok k∧some k≠v.ownBlock)∧k<N) u xs:=
 kV h (fun k hk=>⟨⟨hk.1,fun e=>Nat.lt_irrefl _ (Nat.lt_of_lt_of_le hk.2 (hbase k e.symm))⟩,hk.2⟩)
theorem aay (xs:List α) (p:α):(xs++[p]).zipIdx=xs.zipIdx++[(p,xs.length)]:=by rw[List.zipIdx_append];simp
end
section
open Classical in
theorem ac_ {α:Type}{d:Kd α}{e base:Nat}{okv:Nat→Prop}{w:World}{v:Value}{xs:List α}(h:S d e w base okv v xs) (m:Nat) (fw:Nat→Prop) (hap:∀k,fw k→¬okv k):∃f,(∀k,fw k→f k=m)∧(tag f d).R e w base okv v xs.zipIdx:=by
 obtain⟨f,h⟩:=h;exact⟨fun k=>if fw k then m else f k,fun k hk=>if_pos hk,ac9 h (fun k hk _=>if_neg (fun h2=>hap k h2 hk))⟩
variable {P:Program}{ops:Array Oper}{rest:List Oper}{o:Oper}{a:Act}{Q:Exit→Act→World→Prop}{Kc:Act→World→Prop}{α:Type}
theorem pb (d:Kd α) {w0 W:World}(base:Nat) (hw:Region.wanted o (yielded ops a.tmps)=true) (s x:Operand) (t e:TypeId) (z:Value) (bytes:Nat)
  (ho:o.op= .call {callee:= .builtin .append,args:= #[s,x],argTypes:= #[t,t]})
  (ht:P.underlying t=some (.slice e)) (hinfo:(P.info? e).map (fun i=>(i.zero,i.size,i.bytes))=some (some z,d.sz,bytes)) (hz:z.cells.size=d.sz) (hs0:0<d.sz) (hb0:0<bytes)
  (v:Value) (xs:List α) (p:α) (cs:List Value) (ok fw:Nat→Prop) (hs:a.eval s=v) (hx:a.eval x= .slice (some ⟨W.heap.size,0,none⟩) 1 1) (hp:d.M W base fw p cs) (kf:∀k,fw k→ok k∧some k≠v.ownBlock) (hfresh:∀k,W.heap.size≤k→ok k)
  (HO:S d e W base (fun k=>ok k∧¬fw k) v xs) (HB:Below base w0 W) (hbase:base≤W.heap.size) (hl:(xs.length+1)*bytes≤140737488355328)
  (h:∀v1 w1,S d e w1 base ok v1 (xs++[p])→Below base w0 w1→W.grownBy w1 v.ownBlock→(v1.ownBlock=v.ownBlock∨∃b,v1.ownBlock=some b∧W.heap.size≤b)→Kc (a.put o.dst v1) w1):
  if Region.wanted o (yielded ops a.tmps)=true then Oper.wp P o a (W.alloc (.cells cs.toArray e)) Kc Q else Kc (a.put o.dst undef) (W.alloc (.cells cs.toArray e)):=by
 obtain⟨f,hf,hR⟩:=ac_ HO xs.length fw (fun _ hk h2=>h2.2 hk);refine iQ (tag f d) base hw s x t e z bytes ho ht hinfo hz hs0 hb0 v xs.zipIdx (p,xs.length) cs ok fw hs hx (d.eU (fun k hk=>⟨hk,hf k hk⟩) hp) kf hfresh (aM hR (fun _ hk=>hk.1)) HB hbase (by rw[List.length_zipIdx];exact hl) ?_;intro v1 w1 hr;rw[←aay]at hr;exact h v1 w1 ⟨f,hr⟩
theorem ada (d:Kd α) {w0 W:World}(base e:Nat) (hgd:o.guard=none) {N:Tmp}(_hd:o.dst=some N) {xs:List α}{inner:List Value}{ok fw:Nat→Prop}
  (hrun:(execOp a.eval o).run P W= .ok (.value (.slice (some ⟨W.heap.size,0,none⟩) xs.length xs.length)) (W.alloc (.cells inner.toArray e)))
  (hrep:bp (d.M W base (fun _=>False)) d.sz xs inner) (_hok:∀k,fw k→ok k) (hfresh:ok W.heap.size) (HB:Below base w0 W) (hbase:base≤W.heap.size) (hm:xs.length≤9223372036854775807)
  (h:∀v1 w1,S d e w1 base ok v1 xs→Below base w0 w1→W.grownBy w1 none→(∃b,v1.ownBlock=some b∧W.heap.size≤b)→wpList P ops Q rest (a.put o.dst v1) w1):wpList P ops Q (o::rest) a W:=
 gu (bare d) base e hgd _hd (ok:=ok) (fw:=ok) hrun hrep (fun _ hk=>hk) hfresh HB hbase hm (fun v1 w1 hr=>h v1 w1 (acv hr))
end
def gap {α:Type}(f:Nat→Nat) (d:Kd α) (i:Nat) (c:List Value):Kd (α×Nat) where
 sz:=d.sz
 E:=d.E
 K:=fun w x cs=>(x.2=i→cs=c∧cs.length=d.sz∧∀u∈cs,u.oneCell'=true)∧(x.2≠i→d.K w x.1 cs)
 M:=fun w base ok x cs=>(x.2=i→cs=c∧cs.length=d.sz∧∀u∈cs,u.oneCell'=true)∧(x.2≠i→d.M w base (fun k=>ok k∧f k=x.2) x.1 cs)
 i_:=fun{w x cs} h=>by
  by_cases hx:x.2=i
  ·exact(h.1 hx).2.1
  ·exact d.i_ (h.2 hx)
 iT:=fun{w x cs} h=>by
  by_cases hx:x.2=i
  ·exact(h.1 hx).2.2
  ·exact d.iT (h.2 hx)
 iG:=fun hb h=>⟨h.1,fun hx=>d.iG hb (h.2 hx)⟩
 fT:=fun h=>⟨h.1,fun hx=>d.fT (h.2 hx)⟩
 eU:=fun hok h=>⟨h.1,fun hx=>d.eU (fun k hk=>⟨hok k hk.1,hk.2⟩) (h.2 hx)⟩
 fF:=fun h=>⟨h.1,fun hx=>d.eU (fun _ hk=>⟨⟨hk.1.1,hk.2⟩,hk.1.2⟩) (d.fF (h.2 hx))⟩
 gz:=fun hm h=>⟨h.1,fun hx=>d.gz (fun k hk=>hm k hk.1) (h.2 hx)⟩
 iu:=fun hb h=>⟨h.1,fun hx=>d.iu hb (h.2 hx)⟩
def H {α:Type}(d:Kd α) (e:Nat) (w:World) (base:Nat) (ok:Nat→Prop) (v:Value) (xs:List α) (i:Int) (oki:Nat→Prop) (c:List Value):Prop:=
 (∀k,oki k→ok k)∧∃f,(gap f d i.toNat c).R e w base (fun k=>ok k∧¬oki k) v xs.zipIdx
end Kd
end Go.Proofs.ab.av
