-- Words of the kit's print, trimmed to what this seat's texts use (wip/trim.py). No condition.
import Derived.Test.YtlecajlnjmbilaaGreatDoorWWords
import Derived.Test.YtlecajlnjmbilaaGreatDoorWLast
namespace Go.Proofs.ab.ar
open Go.RowKit
namespace Kd
def tag {α:Type}(f:Nat→Nat) (d:Kd α):Kd (α×Nat) where
 sz:=d.sz
 E:=d.E
 K:=fun w x cs=>d.K w x.1 cs
 M:=fun w base ok x cs=>d.M w base (fun k=>ok k∧f k=x.2) x.1 cs
 ik:=fun h=>d.ik h
 gl:=fun h=>d.gl h
 iR:=fun hb h=>d.iR hb h
 ey:=fun h=>d.ey h
 dt:=fun hok h=>d.dt (fun k hk=>⟨hok k hk.1,hk.2⟩) h
 eU:=fun h=>d.dt (fun _ hk=>⟨⟨hk.1.1,hk.2⟩,hk.1.2⟩) (d.eU h)
 fY:=fun hm h=>d.fY (fun k hk=>hm k hk.1) h
 iq:=fun hb h=>d.iq hb h
def bare {α:Type}(d:Kd α):Kd α where
 sz:=d.sz
 E:=d.E
 K:=d.K
 M:=fun w base _ x cs=>d.M w base (fun _=>False) x cs
 ik:=fun h=>d.ik h
 gl:=fun h=>d.gl h
 iR:=fun hb h=>d.iR hb h
 ey:=fun h=>d.ey h
 dt:=fun _ h=>h
 eU:=fun h=>h
 fY:=fun _ h=>d.fY (fun _ hk=>hk.elim) h
 iq:=fun hb h=>d.iq hb h
def raw (sz:Nat):Kd (List Value) where
 sz:=sz
 E:=[]
 K:=fun _ x cs=>cs=x∧cs.length=sz∧∀u∈cs,u.oneCell'=true
 M:=fun _ _ _ x cs=>cs=x∧cs.length=sz∧∀u∈cs,u.oneCell'=true
 ik:=fun h=>h.2.1
 gl:=fun h=>h.2.2
 iR:=fun _ h=>h
 ey:=fun h=>h
 dt:=fun _ h=>h
 eU:=fun h=>h
 fY:=fun _ h=>h
 iq:=fun _ h=>h
def S {α:Type}(d:Kd α) (e:Nat) (w:World) (base:Nat) (ok:Nat→Prop) (v:Value) (xs:List α):Prop:=∃f,(tag f d).R e w base ok v xs.zipIdx
section
variable {α β:Type}{d:Kd α}{d':Kd β}{e e':Nat}{w w1 W:World}{base b:Nat}{ok ok' okv oku:Nat→Prop}{u v:Value}{xs:List α}{ys:List β}
theorem mr {xs:List α}{j:Nat}{p:α}(h:xs[j]? =some p):xs.zipIdx[j]? =some (p,j):=by rw[List.getElem?_zipIdx,h,Nat.zero_add];rfl
theorem S_R (h:S d e w base ok v xs):d.R e w base ok v xs:=by
 obtain⟨f,h0,inner,ho,hr⟩:=h;rw[List.length_zipIdx]at ho;exact⟨h0,inner,ho,by have:=hr.1;rw[List.length_zipIdx]at this;exact this,fun j p hj=>d.dt (fun _ hk=>hk.1) (hr.2 j (p,j) (mr hj))⟩
theorem aaG {ad:Addr}{n cap:Nat}(h:d.R e w base ok (.slice (some ad) n cap) xs):∃g,ad=⟨g,0,none⟩:=by
 obtain⟨_,inner,ho,hr⟩:=h;rcases ho.2 with⟨hv,_⟩|⟨g,cap',cur,hv,_⟩
 ·cases hv
 ·injection hv with ha _ _;injection ha with ha;exact⟨g,ha⟩
theorem ja (hE:d.E=[]) (h:d.R e w base ok v xs):d.R e w base (fun k=>some k=v.ownBlock) v xs:=by
 obtain⟨h0,inner,ho,hr⟩:=h;refine⟨fun k hk=>hk.symm,inner,ho,hr.lp (fun p c hp=>d.dt (fun k hk=> ?_) (d.eU hp))⟩;obtain⟨_,_,_,q,hq,_⟩:=hk;rw[hE]at hq
 cases hq
theorem iA (d:Kd α) (e:Nat) (w:World) (base:Nat) (ok:Nat→Prop):S d e w base ok (.slice none 0 0) []:=⟨fun _=>0,fx _ _ _ _ _⟩
theorem eZ (h:S d e w base ok v xs) (hok:∀k,ok k→ok' k):S d e w base ok' v xs:=by
 obtain⟨f,h⟩:=h;exact⟨f,bq h hok⟩
theorem kM (h:S d e w base ok v xs):S d e w base (fun k=>ok k∧base≤k∧k<w.heap.size∧∃q,q∈e::d.E∧∃cells,w.heap[k]? =some (.cells cells q (0,0))) v xs:=by
 obtain⟨f,h⟩:=h;exact⟨f,iP h⟩
theorem ac2 (h:S d e w base ok v xs) (hm:∀k,ok k→w1.heap[k]? =w.heap[k]?):S d e w1 base ok v xs:=by
 obtain⟨f,h⟩:=h;exact⟨f,pB h hm⟩
theorem sx {base':Nat}(h:S d e w base ok v xs) (hb:base'≤base):S d e w base' ok v xs:=by
 obtain⟨f,h⟩:=h;exact⟨f,aw h hb⟩
theorem py (h:S d e w base ok v xs) (hm:∀k,ok k→k<w.heap.size→w1.heap[k]? =w.heap[k]?):S d e w1 base ok v xs:=
 eZ (ac2 (kM h) (fun k hk=>hm k hk.1 hk.2.2.1)) (fun _ hk=>hk.1)
theorem gx (h:S d e w base ok v xs) (hb:Below w.heap.size w w1):S d e w1 base ok v xs:=py h (fun k _ hk=>hb.block k hk)
theorem fQ (h:S d e w base ok v xs) (o:Obj):S d e (w.alloc o) base ok v xs:=gx h (aT (Below.refl _ _) o)
theorem gv (h:S d e w base ok v xs):S d e w.drew base ok v xs:=gx h (kJ (Below.refl _ _))
theorem fX (h:S d e w base ok v xs) (m:Nat):S d e (w.drewN m) base ok v xs:=gx h (aI (Below.refl _ _) m)
theorem fP (h:S d e w base ok v xs) {p:Addr}(hok:∀k,ok k→k≠p.block) (u:Value):S d e (w.setCell p u) base ok v xs:=py h (fun k ho _=>Below.heap_setCell w p u k (hok k ho))
theorem nP (h:S d e w base ok v xs) {g t:Nat}{cells:Array Value}(hb:w.heap[g]? =some (.cells cells t (0,0))) (ht:∀q,q∈e::d.E→q≠t):S d e w base (fun k=>ok k∧k≠g) v xs:=by
 obtain⟨f,h⟩:=h;exact⟨f,aK h hb ht⟩
theorem gr (h:S d e w base ok v xs):∀k,v.ownBlock=some k→∃cells,w.heap[k]? =some (.cells cells e (0,0)):=fO (S_R h)
theorem adw (h:S d e W base ok u xs) (hb:Below W.heap.size W w1):S d e w1 base (fun k=>ok k∧k<W.heap.size) u xs:=
 eZ (gx (kM h) hb) (fun _ hk=>⟨hk.1,hk.2.2.1⟩)
theorem ac3 (h:(bare d).R e w base ok v xs):S d e w base ok v xs:=by
 obtain⟨h0,inner,ho,hr⟩:=h;refine⟨fun _=>0,h0,inner,by rw[List.length_zipIdx];exact ho,by rw[List.length_zipIdx];exact hr.1,fun j p hj=> ?_⟩;rw[List.getElem?_zipIdx,Nat.zero_add]at hj;obtain⟨x,hx,rfl⟩:=Option.map_eq_some_iff.1 hj;exact d.dt (fun _ hk=>hk.elim) (hr.2 j x hx)
theorem adI {f f':Nat→Nat}{zs:List (α×Nat)}(h:(tag f d).R e w base ok v zs) (hf:∀k,ok k→k<w.heap.size→f' k=f k):(tag f' d).R e w base ok v zs:=by
 obtain⟨h0,inner,ho,hr⟩:=iP h;exact⟨fun k hk=>(h0 k hk).1,inner,ho,hr.1,fun j p hj=>d.dt (fun k hk=>⟨⟨hk.1.1.1,hk.1.2⟩,(hf k hk.1.1.1 hk.1.1.2.2.1).trans hk.2⟩) (hr.2 j p hj)⟩
end
section
variable {α β:Type}{d:Kd α}{d':Kd β}{e e' g:Nat}{w w1 W:World}{base b:Nat}{ok ok' okv oku:Nat→Prop}{u v:Value}{xs:List α}{ys:List β}
theorem wQ (h:S d e w base ok v xs) {t:Nat}{cells:Array Value}(hb:w.heap[g]? =some (.cells cells t (0,0))) (ht:e≠t):some g≠v.ownBlock:=lJ (S_R h) hb ht
theorem ac4 (h:S d e w base ok v xs) (hok:∀k,ok k→k≠g):some g≠v.ownBlock:=acV (S_R h) hok
theorem uR (h:S d e w base ok v xs) (hp:0<xs.length):∃g cap,v= .slice (some ⟨g,0,none⟩) xs.length cap∧base≤g∧g<w.heap.size∧∃cells,w.heap[g]? =some (.cells cells e (0,0)):=lE (S_R h) hp
theorem il (h:S d e w base ok v xs):∃A c,v= .slice A xs.length c:=ax (S_R h)
theorem lB {A:Option Addr}{n c:Nat}(h:S d e w base ok (.slice A n c) xs):n=xs.length∧n≤c∧d.C w A xs.length xs:=bu (S_R h)
theorem aaH (h:S d e w base ok v xs) (a:Nat) (ha:w.heap.size≤a):S d e w base (fun k=>ok k∧k≠a) v xs:=eZ (kM h) (fun k hk=>⟨hk.1,by have:=hk.2.2.1;omega⟩)
theorem uB {N:Nat}(h:S d e w1 base (fun k=>ok k∧k<N) u xs) (hbase:∀k,v.ownBlock=some k→N≤k):S d e w1 base (fun k=>(ok k∧some k≠v.ownBlock)∧k<N) u xs:=
 eZ h (fun k hk=>⟨⟨hk.1,fun e=>Nat.lt_irrefl _ (Nat.lt_of_lt_of_le hk.2 (hbase k e.symm))⟩,hk.2⟩)
theorem aaI (xs:List α) (p:α):(xs++[p]).zipIdx=xs.zipIdx++[(p,xs.length)]:=by rw[List.zipIdx_append];simp
end
section
open Classical in
theorem adJ {α:Type}{d:Kd α}{e base:Nat}{okv:Nat→Prop}{w:World}{v:Value}{xs:List α}(h:S d e w base okv v xs) (m:Nat) (fj:Nat→Prop) (hap:∀k,fj k→¬okv k):∃f,(∀k,fj k→f k=m)∧(tag f d).R e w base okv v xs.zipIdx:=by
 obtain⟨f,h⟩:=h;exact⟨fun k=>if fj k then m else f k,fun k hk=>if_pos hk,adI h (fun k hk _=>if_neg (fun h2=>hap k h2 hk))⟩
variable {P:Program}{ops:Array Oper}{rest:List Oper}{o:Oper}{a:Act}{Q:Exit→Act→World→Prop}{Kc:Act→World→Prop}{α:Type}
theorem od (d:Kd α) {w0 W:World}(base:Nat) (hw:Region.wanted o (yielded ops a.tmps)=true) (s x:Operand) (t e:TypeId) (z:Value) (bytes:Nat)
  (ho:o.op= .call {callee:= .builtin .append,args:= #[s,x],argTypes:= #[t,t]})
  (ht:P.underlying t=some (.slice e)) (hinfo:(P.info? e).map (fun i=>(i.zero,i.size,i.bytes))=some (some z,d.sz,bytes)) (hz:z.cells.size=d.sz) (hs0:0<d.sz) (hb0:0<bytes)
  (v:Value) (xs:List α) (p:α) (cs:List Value) (ok fj:Nat→Prop) (hs:a.eval s=v) (hx:a.eval x= .slice (some ⟨W.heap.size,0,none⟩) 1 1) (hp:d.M W base fj p cs) (iF:∀k,fj k→ok k∧some k≠v.ownBlock) (hfresh:∀k,W.heap.size≤k→ok k)
  (HO:S d e W base (fun k=>ok k∧¬fj k) v xs) (HB:Below base w0 W) (hbase:base≤W.heap.size) (hl:(xs.length+1)*bytes≤140737488355328)
  (h:∀v1 w1,S d e w1 base ok v1 (xs++[p])→Below base w0 w1→W.grownBy w1 v.ownBlock→(v1.ownBlock=v.ownBlock∨∃b,v1.ownBlock=some b∧W.heap.size≤b)→Kc (a.put o.dst v1) w1):
  if Region.wanted o (yielded ops a.tmps)=true then Oper.wp P o a (W.alloc (.cells cs.toArray e)) Kc Q else Kc (a.put o.dst undef) (W.alloc (.cells cs.toArray e)):=by
 obtain⟨f,hf,hR⟩:=adJ HO xs.length fj (fun _ hk h2=>h2.2 hk);refine nZ (tag f d) base hw s x t e z bytes ho ht hinfo hz hs0 hb0 v xs.zipIdx (p,xs.length) cs ok fj hs hx (d.dt (fun k hk=>⟨hk,hf k hk⟩) hp) iF hfresh (bq hR (fun _ hk=>hk.1)) HB hbase (by rw[List.length_zipIdx];exact hl) ?_;intro v1 w1 hr;rw[←aaI]at hr;exact h v1 w1 ⟨f,hr⟩
theorem ac5 (d:Kd α) {w0 W:World}(base e:Nat) (hgd:o.guard=none) {N:Tmp}(hd:o.dst=some N) (t:TypeId) (x y:Operand) (ho:o.op= .makeSlice t x y) (n:Int) (hx:a.eval x= .int .i64 n) (hy:a.eval y= .int .i64 n)
  (ht:P.underlying t=some (.slice e)) (z:Value) (bytes:Nat) (hinfo:(P.info? e).map (fun i=>(i.zero,i.size,i.bytes))=some (some z,d.sz,bytes)) (hz:z.cells.size=d.sz) (hs0:0<d.sz) (hb0:0<bytes)
  (z0:α) {ok fj:Nat→Prop}(hzero:d.M W base (fun _=>False) z0 z.cells.toList) (_hok:∀k,fj k→ok k) (hfresh:ok W.heap.size) (h0:0≤n) (hl:n.toNat*bytes≤281474976710656) (HB:Below base w0 W) (hbase:base≤W.heap.size)
  (h:∀v1 w1,S d e w1 base ok v1 (List.replicate n.toNat z0)→Below base w0 w1→W.grownBy w1 none→(∃b,v1.ownBlock=some b∧W.heap.size≤b)→wpList P ops Q rest (a.put o.dst v1) w1):wpList P ops Q (o::rest) a W:=
 qI (bare d) base e hgd hd t x y ho n hx hy ht z bytes hinfo hz hs0 hb0 z0 (ok:=ok) (fj:=ok) hzero (fun _ hk=>hk) hfresh h0 hl HB hbase (fun v1 w1 hr=>h v1 w1 (ac3 hr))
end
def gap {α:Type}(f:Nat→Nat) (d:Kd α) (i:Nat) (c:List Value):Kd (α×Nat) where
 sz:=d.sz
 E:=d.E
 K:=fun w x cs=>(x.2=i→cs=c∧cs.length=d.sz∧∀u∈cs,u.oneCell'=true)∧(x.2≠i→d.K w x.1 cs)
 M:=fun w base ok x cs=>(x.2=i→cs=c∧cs.length=d.sz∧∀u∈cs,u.oneCell'=true)∧(x.2≠i→d.M w base (fun k=>ok k∧f k=x.2) x.1 cs)
 ik:=fun{w x cs} h=>by
  by_cases hx:x.2=i
  ·exact(h.1 hx).2.1
  ·exact d.ik (h.2 hx)
 gl:=fun{w x cs} h=>by
  by_cases hx:x.2=i
  ·exact(h.1 hx).2.2
  ·exact d.gl (h.2 hx)
 iR:=fun hb h=>⟨h.1,fun hx=>d.iR hb (h.2 hx)⟩
 ey:=fun h=>⟨h.1,fun hx=>d.ey (h.2 hx)⟩
 dt:=fun hok h=>⟨h.1,fun hx=>d.dt (fun k hk=>⟨hok k hk.1,hk.2⟩) (h.2 hx)⟩
 eU:=fun h=>⟨h.1,fun hx=>d.dt (fun _ hk=>⟨⟨hk.1.1,hk.2⟩,hk.1.2⟩) (d.eU (h.2 hx))⟩
 fY:=fun hm h=>⟨h.1,fun hx=>d.fY (fun k hk=>hm k hk.1) (h.2 hx)⟩
 iq:=fun hb h=>⟨h.1,fun hx=>d.iq hb (h.2 hx)⟩
def H {α:Type}(d:Kd α) (e:Nat) (w:World) (base:Nat) (ok:Nat→Prop) (v:Value) (xs:List α) (i:Int) (kf:Nat→Prop) (c:List Value):Prop:=
 (∀k,kf k→ok k)∧∃f,(gap f d i.toNat c).R e w base (fun k=>ok k∧¬kf k) v xs.zipIdx
section
variable {α β:Type}{d:Kd α}{e e' g n cap:Nat}{w w1 W:World}{base:Nat}{ok ok' kf fj:Nat→Prop}{u v:Value}{xs:List α}{i:Int}{c:List Value}
theorem ac6 (h:S d e W base ok (.slice (some ⟨g,0,none⟩) n cap) xs) (z:α) (i:Int) (h0:0≤i) (h1:i<n):
  ∃(kf:Nat→Prop) (c:List Value),c.length=d.sz∧d.M W base kf (xs.getD i.toNat z) c∧(∀j u,c[j]? =some u→W.cell? ⟨g,i.toNat*d.sz+j,none⟩=some u)∧(∀k,kf k→ok k∧k≠g)∧H d e W base ok (.slice (some ⟨g,0,none⟩) n cap) xs i kf c:=by
 obtain⟨f,hR⟩:=h;have hn:=(bu hR).1;rw[List.length_zipIdx]at hn
 have hgo:some g=(Value.slice (some ⟨g,0,none⟩) n cap).ownBlock:=by simp[Value.ownBlock]
 obtain⟨hok0,inner,ho,hr⟩:=hR
 have hil:i.toNat<xs.length:=by omega
 have hlen:inner.length=xs.length*d.sz:=by have:=hr.1;rw[List.length_zipIdx]at this;exact this
 have hseg:i.toNat*d.sz+d.sz≤inner.length:=by rw[hlen,←Nat.succ_mul];exact Nat.mul_le_mul_right _ hil
 have hM:=hr.2 i.toNat _ (mr (List.getElem?_eq_getElem hil))
 have hkg:∀k,some k≠(Value.slice (some ⟨g,0,none⟩) n cap).ownBlock→k≠g:=fun k hk he=>hk (by rw[he];exact hgo)
 refine⟨fun k=>(ok k∧k≠g)∧f k=i.toNat,(inner.drop (i.toNat*d.sz)).take d.sz,by rw[List.length_take,List.length_drop];omega,?_,fun j u hu=> ?_,fun k hk=>hk.1,fun k hk=>hk.1.1,f,fun k hk=>⟨hok0 k hk,fun h2=>h2.1.2 ?_⟩,inner,ho,hr.1,fun m p hm=> ?_⟩
 ·rw[List.getD_eq_getElem?_getD,List.getElem?_eq_getElem hil];exact d.dt (fun k hk=>⟨⟨hk.1.1,hkg k hk.1.2⟩,hk.2⟩) hM
 ·rw[List.getElem?_take]at hu
  split at hu
  ·rw[List.getElem?_drop]at hu;have:=ho.cells (g:=g) hgo.symm _ u hu
   rwa [add_plain]at this
  ·cases hu
 ·rw[←hgo]at hk;injection hk with hk;exact hk.symm
 ·have hold:=hr.2 m p hm
  have hp2:p.2=m:=by
   rw[List.getElem?_zipIdx,Nat.zero_add]at hm;obtain⟨q,_,rfl⟩:=Option.map_eq_some_iff.1 hm
   rfl
  refine⟨fun hx=> ?_,fun hx=>d.dt (fun k hk=>⟨⟨⟨hk.1.1,fun h2=>hx ?_⟩,hk.1.2⟩,hk.2⟩) hold⟩
  ·have hmi:m=i.toNat:=by omega
   subst hmi;exact⟨rfl,d.ik (d.ey hM),d.gl (d.ey hM)⟩
  ·rw[←hk.2];exact h2.2
open Classical in
theorem aaJ (h:H d e w base ok v xs i kf c) {x':α}(hM:d.M w base fj x' c) (hok:∀k,fj k→kf k):S d e w base ok v (xs.set i.toNat x'):=by
 obtain⟨ho,f,h0,inner,hown,hr⟩:=h;refine⟨fun k=>if kf k then i.toNat else f k,fun k hk=>(h0 k hk).1,inner,by rw[List.length_zipIdx,List.length_set];rw[List.length_zipIdx]at hown;exact hown,by have:=hr.1;rw[List.length_zipIdx]at this;rw[List.length_zipIdx,List.length_set];exact this,fun m p hm=> ?_⟩;rw[List.getElem?_zipIdx,Nat.zero_add]at hm;obtain⟨q,hq,rfl⟩:=Option.map_eq_some_iff.1 hm
 have hml:m<xs.length:=by
  have:=(List.getElem?_eq_some_iff.1 hq).1
  rwa [List.length_set]at this
 by_cases hmi:m=i.toNat
 ·subst hmi;rw[List.getElem?_set_self hml]at hq;injection hq with hq;subst hq;have hc:=((hr.2 i.toNat _ (mr (List.getElem?_eq_getElem hml))).1 rfl).1
  show d.M w base _ x' ((inner.drop (i.toNat*d.sz)).take d.sz)
  rw[show(inner.drop (i.toNat*d.sz)).take d.sz=c from hc];exact d.dt (fun k hk=>⟨⟨ho k (hok k hk),fun he=>(h0 k he.symm).2 (hok k hk)⟩,if_pos (hok k hk)⟩) hM
 ·rw[List.getElem?_set_ne (Ne.symm hmi)]at hq;exact d.dt (fun k hk=>⟨⟨hk.1.1.1,hk.1.2⟩,(if_neg hk.1.1.2).trans hk.2⟩) ((hr.2 m (q,m) (mr hq)).2 hmi)
theorem ac7 (h:H d e w base ok v xs i kf c) (hm:∀k,ok k→¬kf k→k<w.heap.size→w1.heap[k]? =w.heap[k]?):H d e w1 base ok v xs i kf c:=by
 obtain⟨ho,f,h⟩:=h;exact⟨ho,f,kH h (fun k hk hlt=>hm k hk.1 hk.2 hlt)⟩
theorem ac8 {xv:Nat→Prop}(h:H d e w base (fun k=>ok k∧¬xv k) v xs i kf c) (hg:∀k,xv k→ok k):H d e w base ok v xs i (fun k=>kf k∨xv k) c:=by
 obtain⟨ho,f,h⟩:=h;exact⟨fun k hk=>hk.elim (fun h2=>(ho k h2).1) (hg k),f,bq h (fun k hk=>⟨hk.1.1,fun h2=>h2.elim hk.2 hk.1.2⟩)⟩
theorem uS (h:S d e W base ok (.slice (some ⟨g,0,none⟩) n cap) xs) (z:α) (i:Int) (h0:0≤i) (h1:i<n):
  ∃(kf:Nat→Prop) (c:List Value),c.length=d.sz∧d.M W base kf (xs.getD i.toNat z) c∧(∀j u,c[j]? =some u→W.cell? ⟨g,i.toNat*d.sz+j,none⟩=some u)∧(∀j,W.frozen? ⟨g,i.toNat*d.sz+j,none⟩=false)∧(∀k,kf k→ok k∧k≠g)∧H d e W base ok (.slice (some ⟨g,0,none⟩) n cap) xs i kf c:=by
 obtain⟨_,_,_,_,hfr⟩:=kn (S_R h) z i h0 h1;obtain⟨kf,c,hcl,hM,hcc,ac9,hH⟩:=ac6 h z i h0 h1;exact⟨kf,c,hcl,hM,hcc,hfr,ac9,hH⟩
theorem ack (h:H d e W base ok (.slice (some ⟨g,0,none⟩) n cap) xs i kf c) (h0:0≤i) (h1:i<n):
  ∃rows:List (List Value),rows.length=xs.length∧(raw d.sz).R e W base (fun _=>True) (.slice (some ⟨g,0,none⟩) n cap) rows∧c.length=d.sz∧(∀u∈c,u.oneCell'=true)∧(∀j u,c[j]? =some u→W.cell? ⟨g,i.toNat*d.sz+j,none⟩=some u)∧
   ∀w1 c',W.grownBy w1 (some g)→(raw d.sz).R e w1 base (fun _=>True) (.slice (some ⟨g,0,none⟩) n cap) (rows.set i.toNat c')→H d e w1 base ok (.slice (some ⟨g,0,none⟩) n cap) xs i kf c':=by
 obtain⟨hoo,f,hR⟩:=h;have hn:=(bu hR).1;rw[List.length_zipIdx]at hn
 have hgo:some g=(Value.slice (some ⟨g,0,none⟩) n cap).ownBlock:=by simp[Value.ownBlock]
 obtain⟨hok0,inner,ho,hr⟩:=hR
 have hil:i.toNat<xs.length:=by omega
 have hlen:inner.length=xs.length*d.sz:=by have:=hr.1;rw[List.length_zipIdx]at this;exact this
 have hkg:∀k,some k≠(Value.slice (some ⟨g,0,none⟩) n cap).ownBlock→k≠g:=fun k hk he=>hk (by rw[he];exact hgo)
 have hci:=(hr.2 i.toNat _ (mr (List.getElem?_eq_getElem hil))).1 rfl;rw[hci.1]at hci;have hc:=((hr.2 i.toNat _ (mr (List.getElem?_eq_getElem hil))).1 rfl).1;refine⟨(List.range xs.length).map fun j=>(inner.drop (j*d.sz)).take d.sz,by rw[List.length_map,List.length_range],⟨fun _ _=>trivial,inner,?_,?_,fun j p hj=> ?_⟩,hci.2.1,hci.2.2,fun j u hu=> ?_,fun w1 c' hg hraw=> ?_⟩
 ·rw[List.length_map,List.length_range];rw[List.length_zipIdx]at ho;exact ho
 ·rw[List.length_map,List.length_range];exact hlen
 ·rw[List.getElem?_map]at hj;obtain⟨j',hj',rfl⟩:=Option.map_eq_some_iff.1 hj;obtain⟨hl,he⟩:=List.getElem?_eq_some_iff.1 hj';rw[List.getElem_range]at he;subst he;rw[List.length_range]at hl;have hm:=(gap f d i.toNat c).ey (hr.2 j _ (mr (List.getElem?_eq_getElem hl)));exact⟨rfl,(gap f d i.toNat c).ik hm,(gap f d i.toNat c).gl hm⟩
 ·rw[←hc,List.getElem?_take]at hu
  split at hu
  ·rw[List.getElem?_drop]at hu;have:=ho.cells (g:=g) hgo.symm _ u hu
   rwa [add_plain]at this
  ·cases hu
 ·obtain⟨_,sK,ho',hr'⟩:=hraw
  have hl':sK.length=xs.length*d.sz:=by have:=hr'.1;rw[List.length_set,List.length_map,List.length_range]at this;exact this
  rw[List.length_set,List.length_map,List.length_range]at ho';refine⟨hoo,f,hok0,sK,by rw[List.length_zipIdx];exact ho',by rw[List.length_zipIdx];exact hl',fun m p hm=> ?_⟩;rw[List.getElem?_zipIdx,Nat.zero_add]at hm;obtain⟨q,hq,rfl⟩:=Option.map_eq_some_iff.1 hm;have hml:m<xs.length:=(List.getElem?_eq_some_iff.1 hq).1;have hold:=hr.2 m (q,m) (mr hq);refine⟨fun hx=> ?_,fun hx=> ?_⟩
  ·have hx':m=i.toNat:=hx;subst hx';exact hr'.2 i.toNat c' (List.getElem?_set_self (by rw[List.length_map,List.length_range];exact hml))
  ·have hx':m≠i.toNat:=hx
   have hcm:=(hr'.2 m ((inner.drop (m*d.sz)).take d.sz) (by
    rw[List.getElem?_set_ne (Ne.symm hx'),List.getElem?_map,List.getElem?_eq_getElem (by rw[List.length_range];exact hml),List.getElem_range]
    rfl)).1
   show d.M w1 base _ q ((sK.drop (m*d.sz)).take d.sz)
   rw[show(sK.drop (m*d.sz)).take d.sz=_ from hcm];exact d.dt (fun k hk=>hk.1) (d.fY (w1:=w1) (fun k hk=>hg.block k hk.2.2.1 (fun he=>hkg k hk.1.1.2 (by injection he))) (d.eU (hold.2 hx)))
theorem wi (h:H d e W base ok (.slice (some ⟨g,0,none⟩) n cap) xs i kf c) (h0:0≤i) (h1:i<n) {seg:List Value}{j:Nat}(hj:j+seg.length≤d.sz) (hone:∀q∈seg,q.oneCell'=true):
  H d e (W.setCells g (i.toNat*d.sz+j) seg) base ok (.slice (some ⟨g,0,none⟩) n cap) xs i kf (c.take j++seg++c.drop (j+seg.length))∧W.grownBy (W.setCells g (i.toNat*d.sz+j) seg) (some g):=by
 obtain⟨rows,_,hraw,hcl,hco,hcc,hback⟩:=ack h h0 h1
 obtain⟨h2,h3⟩:=pb hraw i h0 h1 (c:=c) (seg:=seg) (j:=j) (x':=c.take j++seg++c.drop (j+seg.length)) (fj:=fun _=>False) hcl hcc hj
  ⟨rfl,by
   show(c.take j++seg++c.drop (j+seg.length)).length=d.sz
   simp only[List.length_append,List.length_take,List.length_drop];omega,fun u hu=>by
   rcases List.mem_append.1 hu with hu|hu
   ·rcases List.mem_append.1 hu with hu|hu
    ·exact hco u (List.mem_of_mem_take hu)
    ·exact hone u hu
   ·exact hco u (List.mem_of_mem_drop hu)⟩ (fun _ hk=>hk.elim)
 exact⟨hback _ _ h3 h2,h3⟩
theorem adK {xv:Nat→Prop}(hH:H d e W base (fun k=>ok k∧¬xv k) (.slice (some ⟨g,0,none⟩) n cap) xs i kf c) (h0:0≤i) (h1:i<n) {seg:List Value}{j:Nat}(hj:j+seg.length≤d.sz)
  {x':α}(hM:d.M W base fj x' (c.take j++seg++c.drop (j+seg.length))) (iF:∀k,fj k→kf k∨xv k) (hg:∀k,xv k→ok k∧k≠g):
  S d e (W.setCells g (i.toNat*d.sz+j) seg) base ok (.slice (some ⟨g,0,none⟩) n cap) (xs.set i.toNat x')∧W.grownBy (W.setCells g (i.toNat*d.sz+j) seg) (some g):=by
 have hne:∀k,kf k∨xv k→k≠g:=by
  intro k hk he;subst he;rcases hk with hk|hk
  ·obtain⟨_,f,hR⟩:=hH;exact(hR.1 k (by simp[Value.ownBlock])).2 hk
  ·exact(hg k hk).2 rfl
 obtain⟨h2,h3⟩:=wi (ac8 hH (fun k hk=>(hg k hk).1)) h0 h1 hj (fun q hq=>d.gl (d.ey hM) q (List.mem_append_left _ (List.mem_append_right _ hq)));exact⟨aaJ h2 (nA hM (fun k hk hlt=>h3.block k hlt (fun he=>hne k (iF k hk) (by injection he)))) iF,h3⟩
end
end Kd
end Go.Proofs.ab.ar
