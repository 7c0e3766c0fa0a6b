/- What the functions that the law reaches answer, in plain words. No condition. -/
import Derived.Sort.Walk0
import Derived.Test.YtlecajlnjmbilaaGreatDoorKinds
import Derived.Test.YtlecajlnjmbilaaGreatDoorPx14
set_option linter.all false
namespace Go.Proofs.YtlecajlnjmbilaaGreatDoor.Q
open Go.RowKit Go.Proofs.ab.aq Go.Proofs.ab.aM Go.Proofs.ab.aT
theorem aV {α:Type}{g:Nat→Option α}{r:α}(h:Ev (fun k=>g (k+1)) r):Ev g r:=by
 obtain⟨K,h⟩:=h;refine⟨K+1,fun n hn=> ?_⟩;obtain⟨m,rfl⟩:∃m,n=m+1:=⟨n-1,by omega⟩;exact h m (by omega)
theorem bp {α:Type}{c:Prop} [Decidable c] {A B:Nat→Option α}{r:α}(hc:c) (h:Ev A r):Ev (fun k=>if c then A k else B k) r:=by
 simpa only[if_pos hc]using h
theorem dw {α:Type}{c:Prop} [Decidable c] {A B:Nat→Option α}{r:α}(hc:¬c) (h:Ev B r):Ev (fun k=>if c then A k else B k) r:=by
 simpa only[if_neg hc]using h
theorem evI {α:Type}{c:Prop} [Decidable c] {A B:Nat→Option α}{r s:α}(hp:c→Ev A r) (hn:¬c→Ev B s):Ev (fun k=>if c then A k else B k) (if c then r else s):=by
 by_cases hc:c
 ·simpa only[if_pos hc]using hp hc
 ·simpa only[if_neg hc]using hn hc
theorem tM {α:Type}{c:Prop} [Decidable c] {A B:Nat→Option α}{r:α}(hp:c→Ev A r) (hn:¬c→Ev B r):Ev (fun k=>if c then A k else B k) r:=by
 by_cases hc:c
 ·simpa only[if_pos hc]using hp hc
 ·simpa only[if_neg hc]using hn hc
theorem fm {α:Type}{g:Nat→Option α}{r s:α}(h:Ev g r) (e:r=s):Ev g s:=e▸h
theorem lf {n:Int}(h0: -9223372036854775808≤n) (h1:n≤9223372036854775807):wrap64 n=n:=by
 unfold wrap64
 omega
theorem drop_cons (l:List Int) (i:Nat) (h:i<l.length):l.drop i=rd l i::l.drop (i+1):=by
 rw[List.drop_eq_getElem_cons h];simp[Go.Proofs.ab.aq.rd,List.getElem?_eq_getElem h]
theorem toList_data (s:ByteArray):s.toList=s.data.toList:=by
 simp[ByteArray.toList_eq]
end Go.Proofs.YtlecajlnjmbilaaGreatDoor.Q
namespace Go.Proofs.YtlecajlnjmbilaaGreatDoor.Q
open Go.RowKit Go.Proofs.YtlecajlnjmbilaaGreatDoor.P Go.Proofs.ab.aq Go.Proofs.ab.aM Go.Proofs.ab.aT
def kS (c:Int):Bool:=decide (97≤c∧c≤122∨48≤c∧c≤57∨c=95∨c=45∨c=46)
def lg (s:ByteArray):Bool:=decide (1≤s.size∧s.size≤14)&&s.toList !=([46]:List UInt8)&&s.toList !=([46,46]:List UInt8)
def fX (s:ByteArray):Bool:=(bytesOf s).all kS&&lg s
theorem oC (a b c:Int):ba.f a b c=some (decide (b≤a∧a≤c)):=by
 unfold ba.f
 by_cases h:a≥b
 ·rw[if_pos h];simp[show b≤a from h]
 ·rw[if_neg h];simp[show¬b≤a from h]
theorem tN (s:ByteArray):((ba.f (s.size:Int) 1 14).bind fun t101=>(if t101=true then(if s.toList=([46]:List UInt8)then(some false)else(some (s.toList !=([46,46]:List UInt8))))else(some false)))=some (lg s):=by
 rw[oC];simp only[Option.bind_some,lg]
 by_cases h:1≤s.size∧s.size≤14
 ·rw[if_pos (by simp;omega)]
  by_cases h1:s.toList=[46]
  ·simp[h1]
  ·rw[if_neg h1];simp[h,h1]
 ·rw[if_neg (by simp;omega)];simp[h]
theorem tO (s:ByteArray):(if(s.size:Int)≥1 then(if(s.size:Int)≤14 then(if s.toList=([46]:List UInt8)then(some false)else(some (s.toList !=([46,46]:List UInt8))))else(some false))else(some false))=some (lg s):=by
 unfold lg
 by_cases h:1≤s.size
 ·rw[if_pos (by omega)]
  by_cases h2:s.size≤14
  ·rw[if_pos (by omega)]
   by_cases h1:s.toList=[46]
   ·simp[h1]
   ·rw[if_neg h1];simp[h,h2,h1]
  ·rw[if_neg (by omega)];simp[h2]
 ·rw[if_neg (by omega)];simp[h]
theorem rH (s:ByteArray) (i:Nat) (h:i<s.size):(bytesOf s).drop i=bt s i::(bytesOf s).drop (i+1):=by
 rw[drop_cons _ _ (by rw[bytesOf_length];exact h),vS]
theorem rI (s:ByteArray) (hs:s.size≤9223372036854775807) (n:Nat):∀(i:Nat),i≤s.size→s.size-i=n→
  Ev (fun k=>aI.l0 k s i) (((bytesOf s).drop i).all kS&&lg s):=by
 induction n with
 |zero=>
  intro i hi hn
  apply aV
  simp only[aI.l0];refine dw (by omega) ?_;rw[tN,List.drop_eq_nil_of_le (by rw[bytesOf_length];omega)]
  simpa using Ev.now _
 |succ n ih=>
  intro i hi hn
  have hlt:i<s.size:=by omega
  have hr:=uz s i;have ih:=ih (i+1) (by omega) (by omega);rw[show((i+1:Nat):Int)=wrap64 ((i:Int)+1)from by rw[lf (by omega) (by omega)];simp]at ih
  apply aV
  simp only[aI.l0,oC,Option.bind_some];rw[rH s i hlt,List.all_cons];refine bp (by omega) (bp (by omega) ?_);rw[lf (by omega) (by omega)];generalize bt s i=c at*
  by_cases h1:97≤c∧c≤122
  ·refine bp (by simp[h1]) (fm ih ?_);simp[kS,h1]
  refine dw (by simp;omega) ?_
  by_cases h2:48≤c∧c≤57
  ·refine bp (by simp[h2]) (fm ih ?_);simp[kS,h2]
  refine dw (by simp;omega) ?_
  by_cases h3:c=95
  ·refine bp h3 (fm ih ?_);simp[kS,h3]
  refine dw h3 ?_
  by_cases h4:c=45
  ·refine bp h4 (fm ih ?_);simp[kS,h4]
  refine dw h4 ?_
  by_cases h5:c=46
  ·refine bp h5 (fm ih ?_);simp[kS,h5]
  refine dw h5 (fm (Ev.now _) ?_)
  have:kS c=false:=by simp[kS];omega
  simp[this]
theorem nr (s:ByteArray) (hs:s.size≤9223372036854775807):Ev (fun k=>aI.f k s) (fX s):=by
 have h:=rI s hs s.size 0 (by omega) (by omega)
 simpa [aI.f,fX]using h
theorem rJ (s:ByteArray) (hs:s.size≤9223372036854775807) (n:Nat):∀(i:Nat),i≤s.size→s.size-i=n→
  Ev (fun k=>ay.l0 k s (s.size:Int) i) (((bytesOf s).drop i).all kS&&lg s):=by
 induction n with
 |zero=>
  intro i hi hn
  apply aV
  simp only[ay.l0];refine dw (by omega) ?_;rw[tO,List.drop_eq_nil_of_le (by rw[bytesOf_length];omega)]
  simpa using Ev.now _
 |succ n ih=>
  intro i hi hn
  have hlt:i<s.size:=by omega
  have hr:=uz s i;have ih:=ih (i+1) (by omega) (by omega);rw[show((i+1:Nat):Int)=wrap64 ((i:Int)+1)from by rw[lf (by omega) (by omega)];simp]at ih
  apply aV
  simp only[ay.l0];rw[rH s i hlt,List.all_cons];refine bp (by omega) (bp (by omega) (bp (by omega) ?_));generalize bt s i=c at*
  by_cases hg:kS c=true
  ·have e:(((bytesOf s).drop (i+1)).all kS&&lg s)=(kS c&&((bytesOf s).drop (i+1)).all kS&&lg s):=by simp[hg]
   replace ih:=fm ih e;simp only[kS,decide_eq_true_eq]at hg
   repeat(first|exact ih|refine tM (fun _=> ?_) (fun _=> ?_)|(exfalso;omega))
  ·have e:false=(kS c&&((bytesOf s).drop (i+1)).all kS&&lg s):=by simp[hg]
   have no:=fm (Ev.now false) e;simp only[kS,decide_eq_true_eq]at hg
   repeat(first|exact no|refine tM (fun _=> ?_) (fun _=> ?_)|(exfalso;omega))
theorem oG (s:ByteArray) (hs:s.size≤9223372036854775807):Ev (fun k=>ay.f k s) (fX s):=by
 have h:=rJ s hs s.size 0 (by omega) (by omega)
 simpa [ay.f,fX]using h
end Go.Proofs.YtlecajlnjmbilaaGreatDoor.Q
namespace Go.Proofs.YtlecajlnjmbilaaGreatDoor.Q
open Go.RowKit Go.Proofs.YtlecajlnjmbilaaGreatDoor.P Go.Proofs.ab.aq Go.Proofs.ab.aM Go.Proofs.ab.aT
theorem abk (l:List Int) (n i:Nat) (hn:n=l.length) (hi:i<n):(l.take i++List.replicate (n-i) 0).set i (rd l i)=l.take (i+1)++List.replicate (n-(i+1)) 0:=by
 subst hn;rw[List.set_append,if_neg (by rw[List.length_take];omega),show i-(l.take i).length=0 from by rw[List.length_take];omega];obtain⟨m,hm⟩:∃m,l.length-i=m+1:=⟨l.length-i-1,by omega⟩;rw[hm,List.replicate_succ,List.set_cons_zero,show l.length-(i+1)=m from by omega,List.take_succ_eq_append_getElem hi,List.append_assoc]
 have:rd l i=l[i]:=by simp[Go.Proofs.ab.aq.rd,List.getElem?_eq_getElem hi]
 rw[this]
 rfl
theorem tP (l:List Int) (hl:l.length≤9223372036854775807) (n:Nat):∀(i:Nat),i≤l.length→l.length-i=n→
  Ev (fun k=>dz.l0 k l (l.take i++List.replicate (l.length-i) 0) i) l:=by
 induction n with
 |zero=>
  intro i hi hn
  apply aV
  simp only[dz.l0];refine dw (by omega) ?_;rw[List.take_of_length_le (by omega),hn]
  simpa using Ev.now l
 |succ n ih=>
  intro i hi hn;have ih:=ih (i+1) (by omega) (by omega);rw[show((i+1:Nat):Int)=wrap64 ((i:Int)+1)from by rw[lf (by omega) (by omega)];simp]at ih
  apply aV
  simp only[dz.l0];refine bp (by omega) (bp (by omega) (bp (by simp[List.length_append,List.length_take];omega) ?_));rw[Int.toNat_natCast,abk l _ i rfl (by omega)];exact ih
theorem wu (l:List Int) (hl:l.length≤281474976710656):Ev (fun k=>dz.f k l) l:=by
 have h:=tP l (by omega) l.length 0 (by omega) (by omega)
 simpa [dz.f,hl]using h
theorem acr (a b:List Int) (i:Nat) (ha:i<a.length) (hb:i<b.length):decide (a.drop i=b.drop i)=(decide (rd a i=rd b i)&&decide (a.drop (i+1)=b.drop (i+1))):=by
 rw[drop_cons a i ha,drop_cons b i hb]
 by_cases h:rd a i=rd b i<;>simp[h]
theorem tQ (a b:List Int) (hab:a.length=b.length) (hl:a.length≤9223372036854775807) (n:Nat):∀(i:Nat),i≤a.length→a.length-i=n→
  Ev (fun k=>dq.l0 k a b i) (decide (a.drop i=b.drop i)):=by
 induction n with
 |zero=>
  intro i hi hn
  apply aV
  simp only[dq.l0];refine dw (by omega) ?_;rw[List.drop_eq_nil_of_le (by omega),List.drop_eq_nil_of_le (by omega)]
  simpa using Ev.now true
 |succ n ih=>
  intro i hi hn;have ih:=ih (i+1) (by omega) (by omega);rw[show((i+1:Nat):Int)=wrap64 ((i:Int)+1)from by rw[lf (by omega) (by omega)];simp]at ih
  apply aV
  simp only[dq.l0];rw[acr a b i (by omega) (by omega)];refine bp (by omega) (bp (by omega) (bp (by omega) ?_))
  by_cases h:rd a i=rd b i
  ·refine bp h (fm ih ?_);simp[h]
  ·refine dw h (fm (Ev.now _) ?_);simp[h]
theorem wv (a b:List Int) (hl:a.length≤9223372036854775807):Ev (fun k=>dq.f k a b) (decide (a=b)):=by
 unfold dq.f
 by_cases h:a.length=b.length
 ·have h1:=tQ a b h hl a.length 0 (by omega) (by omega);refine bp (by omega) ?_
  simpa using h1
 ·refine dw (by omega) (fm (Ev.now _) ?_)
  have:a≠b:=fun e=>h (by rw[e])
  simp[this]
end Go.Proofs.YtlecajlnjmbilaaGreatDoor.Q
namespace Go.Proofs.YtlecajlnjmbilaaGreatDoor.Q
open Go.RowKit Go.Proofs.ab.aq Go.Proofs.ab.aM Go.Proofs.ab.aT
theorem vk {α β:Type}(xs:List α) (f:α→β) (z:β) (i:Nat) (hi:i<xs.length):
  ((xs.take i).map f++List.replicate (xs.length-i) z).set i (f xs[i])=(xs.take (i+1)).map f++List.replicate (xs.length-(i+1)) z:=by
 rw[List.set_append,if_neg (by simp;omega)];obtain⟨m,hm⟩:∃m,xs.length-i=m+1:=⟨xs.length-i-1,by omega⟩;rw[hm,List.replicate_succ,show i-((xs.take i).map f).length=0 from by simp;omega,List.set_cons_zero,show xs.length-(i+1)=m from by omega,List.take_succ_eq_append_getElem hi,List.map_append,List.append_assoc]
 rfl
theorem tR {α β:Type}(L:Nat→List β→Int→Option (List β)) (xs:List α) (f:α→β) (z:β)
  (h1:∀ys:List β,Ev (fun k=>L k ys (xs.length:Nat)) ys)
  (h2:∀(i:Nat) (hi:i<xs.length) (ys:List β),ys.length=xs.length→∀R,Ev (fun k=>L k (ys.set i (f xs[i])) ((i+1:Nat):Int)) R→Ev (fun k=>L k ys (i:Nat)) R):
  Ev (fun k=>L k (List.replicate xs.length z) 0) (xs.map f):=by
 have key:∀n i:Nat,xs.length-i=n→i≤xs.length→Ev (fun k=>L k ((xs.take i).map f++List.replicate (xs.length-i) z) (i:Nat)) (xs.map f):=by
  intro n
  induction n with
  |zero=>
   intro i hn hi
   obtain rfl:i=xs.length:=by omega
   simpa using h1 (xs.map f)
  |succ n ih=>
   intro i hn hi;refine h2 i (by omega) _ (by simp;omega) _ ?_;rw[vk xs f z i (by omega)];exact ih (i+1) (by omega) (by omega)
 simpa using key xs.length 0 (by omega) (by omega)
theorem tS {γ:Type}(L:Nat→Int→Option γ) (n:Nat) (R:γ) (h1:Ev (fun k=>L k (n:Nat)) R) (h2:∀i:Nat,i<n→Ev (fun k=>L k ((i+1:Nat):Int)) R→Ev (fun k=>L k (i:Nat)) R):Ev (fun k=>L k 0) R:=by
 have key:∀m i:Nat,n-i=m→i≤n→Ev (fun k=>L k (i:Nat)) R:=by
  intro m
  induction m with
  |zero=>
   intro i hm hi
   obtain rfl:i=n:=by omega
   exact h1
  |succ m ih=>
   intro i hm hi;exact h2 i (by omega) (ih (i+1) (by omega) (by omega))
 simpa using key n 0 (by omega) (by omega)
theorem xo {α γ:Type}(L:Nat→Int→Option γ) (xs:List α) (F:List α→γ) (h1:Ev (fun k=>L k (xs.length:Nat)) (F []))
  (h2:∀(i:Nat) (hi:i<xs.length),Ev (fun k=>L k ((i+1:Nat):Int)) (F (xs.drop (i+1)))→Ev (fun k=>L k (i:Nat)) (F (xs[i]::xs.drop (i+1)))):Ev (fun k=>L k 0) (F xs):=by
 have key:∀m i:Nat,xs.length-i=m→i≤xs.length→Ev (fun k=>L k (i:Nat)) (F (xs.drop i)):=by
  intro m
  induction m with
  |zero=>
   intro i hm hi
   obtain rfl:i=xs.length:=by omega
   rw[List.drop_length];exact h1
  |succ m ih=>
   intro i hm hi;rw[List.drop_eq_getElem_cons (by omega)];exact h2 i (by omega) (ih (i+1) (by omega) (by omega))
 simpa using key xs.length 0 (by omega) (by omega)
theorem getD_at {α:Type}(xs:List α) (z:α) (i:Nat) (hi:i<xs.length):xs.getD ((i:Nat):Int).toNat z=xs[i]:=by
 simp[List.getD_eq_getElem?_getD,List.getElem?_eq_getElem hi]
theorem rK {γ:Type}(L:Nat→Int→Int→Option γ) (n:Nat) (I:Nat→Int→Prop) (Z:γ→Prop) (h1:∀a,I n a→∃R,Ev (fun k=>L k a (n:Nat)) R∧Z R)
  (h2:∀(i:Nat) (a:Int),i<n→I i a→(∃R,Ev (fun k=>L k a (i:Nat)) R∧Z R)∨∃b,I (i+1) b∧∀R,Ev (fun k=>L k b ((i+1:Nat):Int)) R→Ev (fun k=>L k a (i:Nat)) R) (a:Int) (ha:I 0 a):∃R,Ev (fun k=>L k a 0) R∧Z R:=by
 have key:∀m i:Nat,n-i=m→i≤n→∀a,I i a→∃R,Ev (fun k=>L k a (i:Nat)) R∧Z R:=by
  intro m
  induction m with
  |zero=>
   intro i hm hi a ha
   obtain rfl:i=n:=by omega
   exact h1 a ha
  |succ m ih=>
   intro i hm hi a ha;rcases h2 i a (by omega) ha with h|⟨b,hb,h⟩
   ·exact h
   ·obtain⟨R,hR,hZ⟩:=ih (i+1) (by omega) (by omega) b hb;exact⟨R,h R hR,hZ⟩
 simpa using key n 0 (by omega) (by omega) a ha
end Go.Proofs.YtlecajlnjmbilaaGreatDoor.Q
namespace Go.Proofs.YtlecajlnjmbilaaGreatDoor.Q
open Go.RowKit Go.Proofs.YtlecajlnjmbilaaGreatDoor.P Go.Proofs.ab.aq Go.Proofs.ab.aM Go.Proofs.ab.aT
def marks (n:Nat) (k:Int):List Int:=(List.range n).map fun(i:Nat)=>(k+(i:Int))%256
theorem fU (n:Nat) (k:Int):(marks n k).length=n:=by simp[marks]
theorem abl (n:Nat) (k:Int) (i:Nat) (h:i<n):rd (marks n k) i=(k+i)%256:=by
 simp[Go.Proofs.ab.aq.rd,marks,h]
theorem abm (xs:List Int) (k:Int) (i:Nat) (h:i<xs.length):(marks i k++xs.drop i).set i ((k+i)%256)=marks (i+1) k++xs.drop (i+1):=by
 rw[List.set_append,if_neg (by rw[fU];omega),fU,Nat.sub_self,List.drop_eq_getElem_cons h,List.set_cons_zero];simp[marks,List.range_succ]
theorem yg (xs:List Int) (k0:Int) (hk:0≤k0) (hk1:k0+xs.length≤9223372036854775807) (n:Nat):∀(i:Nat),i≤xs.length→xs.length-i=n→
  Ev (fun k=>db.l0 k (marks i k0++xs.drop i) (k0+i) i) (k0+xs.length,marks xs.length k0):=by
 induction n with
 |zero=>
  intro i hi hn
  apply aV
  simp only[db.l0]
  obtain rfl:i=xs.length:=by omega
  refine dw (by simp[fU]) (fm (Ev.now _) ?_);simp
 |succ n ih=>
  intro i hi hn;have ih:=ih (i+1) (by omega) (by omega);rw[show((i+1:Nat):Int)=(i:Int)+1 from by omega]at ih
  apply aV
  simp only[db.l0];refine bp (by simp[fU];omega) (bp (by omega) ?_);rw[Int.toNat_natCast,abm xs k0 i (by omega),lf (n:=k0+(i:Int)+1) (by omega) (by omega),lf (n:=(i:Int)+1) (by omega) (by omega),Int.add_assoc];exact ih
theorem tT (xs:List Int) (k0:Int) (hk:0≤k0) (hk1:k0+xs.length≤9223372036854775807):Ev (fun k=>db.f k xs k0) (k0+xs.length,marks xs.length k0):=by
 have h:=yg xs k0 hk hk1 xs.length 0 (by omega) (by omega)
 simpa [db.f,marks]using h
theorem yh (m:Nat) (k0:Int) (hk:0≤k0) (hk1:k0+m≤9223372036854775807) (n:Nat):∀(i:Nat),i≤m→m-i=n→
  Ev (fun k=>dn.l0 k (marks m k0) (k0+i) i) (k0+m):=by
 induction n with
 |zero=>
  intro i hi hn
  apply aV
  simp only[dn.l0]
  obtain rfl:i=m:=by omega
  exact dw (by simp[fU]) (Ev.now _)
 |succ n ih=>
  intro i hi hn;have ih:=ih (i+1) (by omega) (by omega);rw[show((i+1:Nat):Int)=(i:Int)+1 from by omega]at ih
  apply aV
  simp only[dn.l0];refine bp (by simp[fU];omega) (bp (by omega) (bp (abl m k0 i (by omega)) ?_));rw[lf (n:=k0+(i:Int)+1) (by omega) (by omega),lf (n:=(i:Int)+1) (by omega) (by omega),Int.add_assoc];exact ih
theorem tU (m:Nat) (k0:Int) (hk:0≤k0) (hk1:k0+m≤9223372036854775807):Ev (fun k=>dn.f k (marks m k0) k0) (k0+m):=by
 have h:=yh m k0 hk hk1 m 0 (by omega) (by omega)
 simpa [dn.f]using h
end Go.Proofs.YtlecajlnjmbilaaGreatDoor.Q
namespace Go.Proofs.YtlecajlnjmbilaaGreatDoor.Q
open Go.RowKit Go.Proofs.YtlecajlnjmbilaaGreatDoor.P Go.Proofs.ab.aq Go.Proofs.ab.aM Go.Proofs.ab.aT
def acs (x:kd):ey:=⟨x.f0,x.f1⟩
def xp (x:ke):ct:=⟨x.f0,x.f1⟩
theorem nt (i:Nat) (n:Nat) (hi:i<n) (hn:n≤9223372036854775807):wrap64 ((i:Int)+1)=((i+1:Nat):Int):=by
 rw[lf (by omega) (by omega)];omega
theorem yi (l:List kd) (hl:l.length≤11728124029610):Ev (fun k=>ez.f k l) (l.map acs):=by
 unfold ez.f;refine bp (by omega) (bp (by omega) ?_);rw[Int.toNat_natCast];refine tR (fun k ys i=>ez.l0 k l ys i) l acs _ (fun ys=> ?_) (fun i hi ys hy R h=> ?_)
 ·apply aV
  simp only[ez.l0];exact dw (by omega) (Ev.now _)
 ·apply aV
  simp only[ez.l0,kX.f,Option.bind_some];refine bp (by omega) (bp (by omega) (bp (by omega) ?_));rw[nt i l.length hi (by omega),Int.toNat_natCast];simp only[iq,getD_at l _ i hi];exact h
theorem wx (l:List ke) (hl:l.length≤8796093022208):Ev (fun k=>eb.f k l) (l.map xp):=by
 unfold eb.f;refine bp (by omega) (bp (by omega) ?_);rw[Int.toNat_natCast];refine tR (fun k ys i=>eb.l0 k l ys i) l xp _ (fun ys=> ?_) (fun i hi ys hy R h=> ?_)
 ·apply aV
  simp only[eb.l0];exact dw (by omega) (Ev.now _)
 ·apply aV
  simp only[eb.l0,kF.f,Option.bind_some];refine bp (by omega) (bp (by omega) (bp (by omega) ?_));rw[nt i l.length hi (by omega),Int.toNat_natCast];simp only[hO,getD_at l _ i hi];exact h
theorem wy (a b c:Int) (d:List Int) (e:List kd) (t:List ke) (hd:d.length≤1048576) (he:e.length≤1048576) (ht:t.length≤1048576):
  Ev (fun k=>jb.f k a b c d e t) (a,b,c,d,e.map acs,t.map xp):=by
 unfold jb.f;exact Ev.bind (wu d (by omega)) (Ev.bind (yi e (by omega)) (Ev.bind (wx t (by omega)) (Ev.now _)))
theorem vl (l:List ey) (hl:l.length≤9223372036854775807):Ev (fun k=>cE.f k l l) true:=by
 unfold cE.f;refine bp rfl (tS (fun k i=>cE.l0 k l l i) l.length true ?_ (fun i hi h=> ?_))
 ·apply aV
  simp only[cE.l0];exact dw (by omega) (Ev.now _)
 ·apply aV
  simp only[cE.l0,kD.f,if_true,Option.bind_some];refine bp (by omega) (bp (by omega) (bp (by omega) ?_));rw[nt i l.length hi hl];exact h
theorem tV (l:List ct) (hl:l.length≤9223372036854775807):Ev (fun k=>cu.f k l l) true:=by
 unfold cu.f;refine bp rfl (tS (fun k i=>cu.l0 k l l i) l.length true ?_ (fun i hi h=> ?_))
 ·apply aV
  simp only[cu.l0];exact dw (by omega) (Ev.now _)
 ·apply aV
  simp only[cu.l0,js.f,if_true,Option.bind_some];refine bp (by omega) (bp (by omega) (bp (by omega) ?_));rw[nt i l.length hi hl];exact h
theorem tW (a b c:Int) (d:List Int) (e:List ey) (t:List ct) (hd:d.length≤9223372036854775807) (he:e.length≤9223372036854775807) (ht:t.length≤9223372036854775807):
  Ev (fun k=>iw.f k a b c d e t a b c d e t) true:=by
 unfold iw.f;refine bp rfl (bp rfl (bp rfl (Ev.bind (wv d d hd) (bp (by simp) (Ev.bind (vl e he) (bp rfl (Ev.bind (tV t ht) (bp rfl (Ev.now _)))))))))
theorem wz (d:List Int) (n:Int) (h0:0≤n) (h1:n≤1048576) (hd:d.length≤9223372036854775807):∃R,fS.f d n=some R∧(0≤R→R=n-d.length)∧R≤n:=by
 unfold fS.f;rw[lf (by omega) (by omega)]
 by_cases h:n-(d.length:Int)<0
 ·rw[if_pos h];exact⟨_,rfl,fun h=>by omega,by omega⟩
 ·rw[if_neg h];exact⟨_,rfl,fun _=>rfl,by omega⟩
def xq (l:List kd):Nat:=(l.map fun e=>e.f0.size).sum
def tX (l:List ke):Nat:=(l.map fun e=>e.f0.size+e.f1.size).sum
theorem rL {α:Type}(f:α→Nat) (l:List α) (i:Nat) (hi:i<l.length):((l.take (i+1)).map f).sum=((l.take i).map f).sum+f l[i]:=by
 rw[List.take_succ_eq_append_getElem hi,List.map_append,List.sum_append];simp
theorem yj (l:List kd) (n:Int) (h0:0≤n) (h1:n≤1048576) (hl:l.length≤9223372036854775807) (hg:∀e∈l,e.f0.size≤9223372036854775807):
  ∃R,Ev (fun k=>eu.f k l n) R∧(0≤R→R=n-l.length-xq l)∧R≤n:=by
 unfold eu.f;rw[lf (by omega) (by omega)]
 by_cases h:n-(l.length:Int)<0
 ·exact⟨-1,bp h (Ev.now _),fun h=>by omega,by omega⟩
 ·obtain⟨R,hR,hZ⟩:=rK (fun k a i=>eu.l0 k l a i) l.length (fun i a=>0≤a∧a=n-l.length-((l.take i).map fun e=>e.f0.size).sum) (fun R=>(0≤R→R=n-l.length-xq l)∧R≤n)
   (fun a ha=>⟨a,by
    apply aV
    simp only[eu.l0]
    exact dw (by omega) (Ev.now _),fun _=>by rw[ha.2,List.take_length];rfl,by omega⟩)
   (fun i a hi ha=>by
    have hm:=hg l[i] (List.getElem_mem hi);have hs:=rL (fun e:kd=>e.f0.size) l i hi
    by_cases hlt:a-(l[i].f0.size:Int)<0
    ·refine .inl ⟨-1,?_,fun h=>by omega,by omega⟩
     apply aV
     simp only[eu.l0,jt.f,iq,getD_at l _ i hi];rw[lf (n:=a-(l[i].f0.size:Int)) (by omega) (by omega),if_pos hlt];simp only[Option.bind_some];exact bp (by omega) (bp (by omega) (bp (by omega) (Ev.now _)))
    ·refine .inr ⟨a-(l[i].f0.size:Int),⟨by omega,by rw[hs];omega⟩,fun R h=> ?_⟩
     apply aV
     simp only[eu.l0,jt.f,iq,getD_at l _ i hi];rw[lf (n:=a-(l[i].f0.size:Int)) (by omega) (by omega),if_neg hlt];simp only[Option.bind_some];refine bp (by omega) (bp (by omega) (dw (by omega) ?_));rw[nt i l.length hi hl]
     exact h) (n-l.length) ⟨by omega,by simp⟩
  exact⟨R,dw h hR,hZ⟩
theorem wA (l:List ke) (n:Int) (h0:0≤n) (h1:n≤1048576) (hl:l.length≤9223372036854775807) (hg:∀e∈l,e.f0.size≤9223372036854775807∧e.f1.size≤9223372036854775807):
  ∃R,Ev (fun k=>dt.f k l n) R∧(0≤R→R=n-l.length-tX l)∧R≤n:=by
 unfold dt.f;rw[lf (by omega) (by omega)]
 by_cases h:n-(l.length:Int)<0
 ·exact⟨-1,bp h (Ev.now _),fun h=>by omega,by omega⟩
 ·obtain⟨R,hR,hZ⟩:=rK (fun k a i=>dt.l0 k l a i) l.length (fun i a=>0≤a∧a=n-l.length-((l.take i).map fun e=>e.f0.size+e.f1.size).sum) (fun R=>(0≤R→R=n-l.length-tX l)∧R≤n)
   (fun a ha=>⟨a,by
    apply aV
    simp only[dt.l0]
    exact dw (by omega) (Ev.now _),fun _=>by rw[ha.2,List.take_length];rfl,by omega⟩)
   (fun i a hi ha=>by
    have hm:=hg l[i] (List.getElem_mem hi);have hs:=rL (fun e:ke=>e.f0.size+e.f1.size) l i hi
    by_cases hlt:a-(l[i].f0.size:Int)<0
    ·refine .inl ⟨-1,?_,fun h=>by omega,by omega⟩
     apply aV
     simp only[dt.l0,iv.f,hO,getD_at l _ i hi];rw[lf (n:=a-(l[i].f0.size:Int)) (by omega) (by omega),if_pos hlt];simp only[Option.bind_some];exact bp (by omega) (bp (by omega) (bp (by omega) (Ev.now _)))
    ·by_cases hlt2:a-(l[i].f0.size:Int)-(l[i].f1.size:Int)<0
     ·refine .inl ⟨-1,?_,fun h=>by omega,by omega⟩
      apply aV
      simp only[dt.l0,iv.f,hO,getD_at l _ i hi];rw[lf (n:=a-(l[i].f0.size:Int)) (by omega) (by omega),if_neg hlt,lf (n:=a-(l[i].f0.size:Int)-(l[i].f1.size:Int)) (by omega) (by omega),if_pos hlt2];simp only[Option.bind_some];exact bp (by omega) (bp (by omega) (bp (by omega) (Ev.now _)))
     ·refine .inr ⟨a-(l[i].f0.size:Int)-(l[i].f1.size:Int),⟨by omega,by rw[hs];omega⟩,fun R h=> ?_⟩
      apply aV
      simp only[dt.l0,iv.f,hO,getD_at l _ i hi];rw[lf (n:=a-(l[i].f0.size:Int)) (by omega) (by omega),if_neg hlt,lf (n:=a-(l[i].f0.size:Int)-(l[i].f1.size:Int)) (by omega) (by omega),if_neg hlt2];simp only[Option.bind_some];refine bp (by omega) (bp (by omega) (dw (by omega) ?_));rw[nt i l.length hi hl]
      exact h) (n-l.length) ⟨by omega,by simp⟩
  exact⟨R,dw h hR,hZ⟩
def pO (d:List Int) (e:List kd) (t:List ke):Nat:=d.length+e.length+xq e+t.length+tX t
theorem wB (a b c:Int) (d:List Int) (e:List kd) (t:List ke) (n:Int) (h0:0≤n) (h1:n≤1048576) (hd:d.length≤9223372036854775807) (he:e.length≤9223372036854775807) (ht:t.length≤9223372036854775807)
  (ge:∀x∈e,x.f0.size≤9223372036854775807) (gt:∀x∈t,x.f0.size≤9223372036854775807∧x.f1.size≤9223372036854775807):
  ∃R,Ev (fun k=>ix.f k a b c d e t n) R∧(0≤R→R=n-pO d e t)∧R≤n:=by
 unfold ix.f;obtain⟨R1,e1,z1,l1⟩:=wz d n h0 h1 hd;simp only[e1,Option.bind_some]
 by_cases c1:R1<0
 ·exact⟨-1,bp c1 (Ev.now _),fun h=>by omega,by omega⟩
 obtain⟨R2,e2,z2,l2⟩:=yj e R1 (by omega) (by omega) he ge
 by_cases c2:R2<0
 ·exact⟨-1,dw c1 (Ev.bind e2 (bp c2 (Ev.now _))),fun h=>by omega,by omega⟩
 obtain⟨R3,e3,z3,l3⟩:=wA t R2 (by omega) (by omega) ht gt
 by_cases c3:R3<0
 ·exact⟨-1,dw c1 (Ev.bind e2 (dw c2 (Ev.bind e3 (bp c3 (Ev.now _))))),fun h=>by omega,by omega⟩
 ·refine⟨R3,dw c1 (Ev.bind e2 (dw c2 (Ev.bind e3 (dw c3 (Ev.now _))))),fun h=> ?_,by omega⟩;have:=z1 (by omega);have:=z2 (by omega);have:=z3 (by omega);unfold pO
  omega
end Go.Proofs.YtlecajlnjmbilaaGreatDoor.Q
namespace Go.Proofs.YtlecajlnjmbilaaGreatDoor.Q
open Go.RowKit Go.Proofs.YtlecajlnjmbilaaGreatDoor.P Go.Proofs.ab.aq Go.Proofs.ab.aM Go.Proofs.ab.aT
theorem down {n:Nat}{P:Nat→Prop}(h1:P n) (h2:∀i,i<n→P (i+1)→P i):P 0:=by
 have key:∀m i:Nat,n-i=m→i≤n→P i:=by
  intro m
  induction m with
  |zero=>
   intro i hm hi
   obtain rfl:i=n:=by omega
   exact h1
  |succ m ih=>intro i hm hi;exact h2 i (by omega) (ih (i+1) (by omega) (by omega))
 exact key n 0 (by omega) (by omega)
def ju (x:nc):bm:=⟨x.f0,x.f1,x.f2,x.f3,x.f4.map acs,x.f5.map xp⟩
def adI (x:nc):Prop:=x.f3.length≤1048576∧x.f4.length≤1048576∧x.f5.length≤1048576
theorem vm (l:List nc) (hl:l.length≤1048576) (hb:∀x∈l,adI x):Ev (fun k=>dh.f k l) (l.map ju):=by
 unfold dh.f;refine bp (by omega) (bp (by omega) ?_);rw[Int.toNat_natCast];refine tR (fun k ys i=>dh.l0 k l ys i) l ju _ (fun ys=> ?_) (fun i hi ys hy R h=> ?_)
 ·apply aV
  simp only[dh.l0];exact dw (by omega) (Ev.now _)
 ·have hB:=hb l[i] (List.getElem_mem hi);have ht:=wy l[i].f0 l[i].f1 l[i].f2 l[i].f3 l[i].f4 l[i].f5 hB.1 hB.2.1 hB.2.2
  apply aV
  simp only[dh.l0,cI,getD_at l _ i hi];refine bp (by omega) (bp (by omega) (Ev.bind ht (bp (by omega) ?_)));rw[nt i l.length hi (by omega),Int.toNat_natCast];exact h
theorem abf (l:List nc) (n:Int) (hl:l.length≤1048576) (hb:∀x∈l,adI x):Ev (fun k=>iA.f k l n) (l.map ju,n):=by
 unfold iA.f;exact Ev.bind (vm l hl hb) (Ev.now _)
theorem sw (l:List bm) (hl:l.length≤9223372036854775807) (hb:∀x∈l,x.f3.length≤9223372036854775807∧x.f4.length≤9223372036854775807∧x.f5.length≤9223372036854775807):Ev (fun k=>cf.f k l l) true:=by
 unfold cf.f;refine bp rfl ?_;refine tS (fun k i=>cf.l0 k l l i) l.length true ?_ (fun i hi h=> ?_)
 ·apply aV
  simp only[cf.l0];exact dw (by omega) (Ev.now _)
 ·have hB:=hb l[i] (List.getElem_mem hi)
  apply aV
  simp only[cf.l0,af,getD_at l _ i hi];refine bp (by omega) (bp (by omega) (bp (by omega) (Ev.bind (tW _ _ _ _ _ _ hB.1 hB.2.1 hB.2.2) (bp rfl ?_))));rw[nt i l.length hi hl];exact h
theorem rM (l:List bm) (n:Int) (hl:l.length≤9223372036854775807) (hb:∀x∈l,x.f3.length≤9223372036854775807∧x.f4.length≤9223372036854775807∧x.f5.length≤9223372036854775807):Ev (fun k=>fL.f k l n l n) true:=by
 unfold fL.f;exact Ev.bind (sw l hl hb) (bp rfl (bp rfl (Ev.now _)))
def adJ (x:nc):Prop:=x.f3.length≤9223372036854775807∧x.f4.length≤9223372036854775807∧x.f5.length≤9223372036854775807∧(∀e∈x.f4,e.f0.size≤9223372036854775807)∧(∀e∈x.f5,e.f0.size≤9223372036854775807∧e.f1.size≤9223372036854775807)
def pP (x:nc):Nat:=pO x.f3 x.f4 x.f5
def qz (l:List nc):Nat:=l.length+(l.map pP).sum
theorem vn (l:List nc) (n:Int) (h0:0≤n) (h1:n≤1048576) (hl:l.length≤9223372036854775807) (hg:∀x∈l,adJ x):
  ∃R,Ev (fun k=>di.f k l n) R∧(0≤R→R=n-qz l)∧R≤n:=by
 unfold di.f;rw[lf (by omega) (by omega)]
 by_cases h:n-(l.length:Int)<0
 ·exact⟨-1,bp h (Ev.now _),fun h=>by omega,by omega⟩
 ·obtain⟨R,hR,hZ⟩:=rK (fun k a i=>di.l0 k l a i) l.length (fun i a=>0≤a∧a≤n∧a=n-l.length-((l.take i).map pP).sum) (fun R=>(0≤R→R=n-qz l)∧R≤n)
   (fun a ha=>⟨a,by
    apply aV
    simp only[di.l0]
    exact dw (by omega) (Ev.now _),fun _=>by rw[ha.2.2,List.take_length];unfold qz;omega,by omega⟩)
   (fun i a hi ha=>by
    obtain⟨m1,m2,m3,m4,m5⟩:=hg l[i] (List.getElem_mem hi);have hs:=rL pP l i hi;obtain⟨R1,e1,z1,l1⟩:=wB l[i].f0 l[i].f1 l[i].f2 l[i].f3 l[i].f4 l[i].f5 a ha.1 (by omega) m1 m2 m3 m4 m5
    by_cases hlt:R1<0
    ·refine .inl ⟨-1,?_,fun h=>by omega,by omega⟩
     apply aV
     simp only[di.l0,cI,getD_at l _ i hi];exact bp (by omega) (bp (by omega) (Ev.bind e1 (bp hlt (Ev.now _))))
    ·have z1:=z1 (by omega);refine .inr ⟨R1,⟨by omega,by omega,by rw[hs];unfold pP at*;omega⟩,fun R h=> ?_⟩
     apply aV
     simp only[di.l0,cI,getD_at l _ i hi];refine bp (by omega) (bp (by omega) (Ev.bind e1 (dw hlt ?_)));rw[nt i l.length hi hl]
     exact h) (n-l.length) ⟨by omega,by omega,by simp⟩
  exact⟨R,dw h hR,hZ⟩
theorem abd (l:List nc) (nx n:Int) (h0:0≤n) (h1:n≤1048576) (hl:l.length≤9223372036854775807) (hg:∀x∈l,adJ x):
  ∃R,Ev (fun k=>jo.f k l nx n) R∧(0≤R→R=n-qz l)∧R≤n:=by
 obtain⟨R,e,z,h⟩:=vn l n h0 h1 hl hg;unfold jo.f
 by_cases c:R<0
 ·exact⟨-1,Ev.bind e (bp c (Ev.now _)),fun h=>by omega,by omega⟩
 ·exact⟨R,Ev.bind e (dw c (Ev.now _)),z,h⟩
theorem pt {α:Type}(f:α→Nat) (l:List α) (x:α) (h:x∈l):f x≤(l.map f).sum:=by
 induction l with
 |nil=>cases h
 |cons y l ih=>
  rw[List.map_cons,List.sum_cons];rcases List.mem_cons.1 h with rfl|h
  ·omega
  ·have:=ih h;omega
structure acu (x:nc):Prop where
 d:x.f3.length≤1048576
 e:x.f4.length≤1048576
 t:x.f5.length≤1048576
 en:∀y∈x.f4,y.f0.size≤1048576
 tn:∀y∈x.f5,y.f0.size≤1048576∧y.f1.size≤1048576
theorem acv (x:nc) (h:pP x≤1048576):acu x:=by
 unfold pP pO at h;refine⟨by omega,by omega,by omega,fun y hy=> ?_,fun y hy=> ?_⟩
 ·have:=pt (fun e:kd=>e.f0.size) x.f4 y hy;unfold xq at h
  omega
 ·have:=pt (fun e:ke=>e.f0.size+e.f1.size) x.f5 y hy;unfold tX at h
  omega
theorem yd (l:List nc) (h:qz l≤1048576):l.length≤1048576∧∀x∈l,acu x:=by
 unfold qz at h;refine⟨by omega,fun x hx=>acv x ?_⟩;have:=pt pP l x hx
 omega
end Go.Proofs.YtlecajlnjmbilaaGreatDoor.Q
namespace Go.Proofs.YtlecajlnjmbilaaGreatDoor.Q
open Go.RowKit Go.Proofs.YtlecajlnjmbilaaGreatDoor.P Go.Proofs.YtlecajlnjmbilaaGreatDoor.Kinds Go.Proofs.ab.aq Go.Proofs.ab.aM Go.Proofs.ab.aT
theorem abe (l:List nc) (h:∀x∈l,g92 x):∀x∈l,adJ x:=by
 intro x hx;obtain⟨_,_,_,⟨hd,_⟩,⟨he,ge⟩,⟨ht,gt⟩⟩:=h x hx;have hM:maxLen=9223372036854775807:=rfl;simp only[hM]at*;exact⟨hd,he,ht,fun e h=>(ge e h).1,fun e h=>gt e h⟩
theorem aco (l:List nc) (h:∀x∈l,acu x):∀x∈l,adI x:=fun x hx=>⟨(h x hx).d,(h x hx).e,(h x hx).t⟩
end Go.Proofs.YtlecajlnjmbilaaGreatDoor.Q
namespace Go.Proofs.YtlecajlnjmbilaaGreatDoor.Q
open Go.RowKit Go.Proofs.YtlecajlnjmbilaaGreatDoor.P Go.Proofs.ab.aq Go.Proofs.ab.aM Go.Proofs.ab.aT
def aef (a b:ByteArray):Bool:=Op.bytesLess a.toList b.toList
def upTo (p:Option ByteArray) (s:ByteArray):Bool:=match p with|none=>true|some q=>aef q s
def mq:Option ByteArray→List ey→Bool
 |_,[]=>true
 |p,e::l=>fX e.f0&&decide (2≤e.f1∧e.f1≤1000)&&upTo p e.f0&&mq (some e.f0) l
def lF:Option ByteArray→List ct→Bool
 |_,[]=>true
 |p,e::l=>fX e.f0&&decide (1≤e.f1.size∧e.f1.size≤16)&&upTo p e.f0&&lF (some e.f0) l
def jl (l:List ey) (i:Nat):Option ByteArray:=if i=0 then none else some (al l ((i:Int)-1)).f0
def iz (l:List ct) (i:Nat):Option ByteArray:=if i=0 then none else some (an l ((i:Int)-1)).f0
theorem pQ (l:List ey) (i:Nat) (h:i<l.length):jl l (i+1)=some l[i].f0:=by
 unfold jl;rw[if_neg (by omega),show(((i+1:Nat):Int)-1)=(i:Int)from by omega,al,getD_at l _ i h]
theorem pc (l:List ct) (i:Nat) (h:i<l.length):iz l (i+1)=some l[i].f0:=by
 unfold iz;rw[if_neg (by omega),show(((i+1:Nat):Int)-1)=(i:Int)from by omega,an,getD_at l _ i h]
def pv (l:List ey):Bool:=mq none l&&decide (l.length≤10)
def mr (l:List ct):Bool:=lF none l&&decide (l.length≤4)
theorem yk (l:List ey) (hl:l.length≤1048576) (hn:∀e∈l,e.f0.size≤1048576):Ev (fun k=>ef.f k l) (pv l):=by
 have key:Ev (fun k=>ef.l0 k l (0:Nat)) (mq (jl l 0) (l.drop 0)&&decide (l.length≤10)):=by
  refine down (n:=l.length) (P:=fun i=>Ev (fun k=>ef.l0 k l (i:Nat)) (mq (jl l i) (l.drop i)&&decide (l.length≤10))) ?_ (fun i hi h=> ?_)
  ·rw[List.drop_length]
   apply aV
   simp only[ef.l0,mq];refine dw (by omega) (fm (Ev.now _) ?_);simp;omega
  ·rw[List.drop_eq_getElem_cons hi];rw[pQ l i hi]at h
   apply aV
   simp only[ef.l0];refine bp (by omega) ?_;have hname:=nr l[i].f0 (by have:=hn _ (List.getElem_mem hi);omega);have hrd:al l (i:Int)=l[i]:=getD_at l _ i hi;rw[hrd,nt i l.length hi (by omega)];simp only[mq,oC,Option.bind_some];refine bp (by omega) (Ev.bind hname ?_)
   by_cases c1:fX l[i].f0=true
   ·refine bp c1 ?_
    by_cases c2:2≤l[i].f1∧l[i].f1≤1000
    ·refine bp (by simp[c2]) ?_
     by_cases c3:i=0
     ·subst c3;refine dw (by omega) (fm h ?_);simp[c1,c2,jl,upTo]
     ·rw[lf (n:=(i:Int)-1) (by omega) (by omega)]
      have hu:upTo (jl l i) l[i].f0=Op.bytesLess (al l ((i:Int)-1)).f0.toList l[i].f0.toList:=by unfold jl;rw[if_neg c3];rfl
      refine bp (by omega) (bp (by omega) (bp (by omega) ?_))
      by_cases c4:Op.bytesLess (al l ((i:Int)-1)).f0.toList l[i].f0.toList=true
      ·refine bp c4 (fm h ?_);simp[c1,c2,hu,c4]
      ·refine dw c4 (fm (Ev.now _) ?_);simp[hu,c4]
    ·refine dw (by simp;omega) (fm (Ev.now _) ?_);have:decide (2≤l[i].f1∧l[i].f1≤1000)=false:=decide_eq_false c2;simp[this]
   ·refine dw c1 (fm (Ev.now _) ?_);simp[c1]
 simpa [ef.f,pv,jl]using key
theorem wC (l:List ct) (hl:l.length≤1048576) (hn:∀e∈l,e.f0.size≤1048576):Ev (fun k=>dr.f k l) (mr l):=by
 have key:Ev (fun k=>dr.l0 k l (0:Nat)) (lF (iz l 0) (l.drop 0)&&decide (l.length≤4)):=by
  refine down (n:=l.length) (P:=fun i=>Ev (fun k=>dr.l0 k l (i:Nat)) (lF (iz l i) (l.drop i)&&decide (l.length≤4))) ?_ (fun i hi h=> ?_)
  ·rw[List.drop_length]
   apply aV
   simp only[dr.l0,lF];refine dw (by omega) (fm (Ev.now _) ?_);simp;omega
  ·rw[List.drop_eq_getElem_cons hi];rw[pc l i hi]at h
   apply aV
   simp only[dr.l0];refine bp (by omega) ?_;have hname:=nr l[i].f0 (by have:=hn _ (List.getElem_mem hi);omega);have hrd:an l (i:Int)=l[i]:=getD_at l _ i hi;rw[hrd,nt i l.length hi (by omega)];simp only[lF,oC,Option.bind_some];refine bp (by omega) (Ev.bind hname ?_)
   by_cases c1:fX l[i].f0=true
   ·refine bp c1 ?_
    by_cases c2:1≤l[i].f1.size∧l[i].f1.size≤16
    ·refine bp (by simp;omega) ?_
     by_cases c3:i=0
     ·subst c3;refine dw (by omega) (fm h ?_);simp[c1,c2,iz,upTo]
     ·rw[lf (n:=(i:Int)-1) (by omega) (by omega)]
      have hu:upTo (iz l i) l[i].f0=Op.bytesLess (an l ((i:Int)-1)).f0.toList l[i].f0.toList:=by unfold iz;rw[if_neg c3];rfl
      refine bp (by omega) (bp (by omega) (bp (by omega) ?_))
      by_cases c4:Op.bytesLess (an l ((i:Int)-1)).f0.toList l[i].f0.toList=true
      ·refine bp c4 (fm h ?_);simp[c1,c2,hu,c4]
      ·refine dw c4 (fm (Ev.now _) ?_);simp[hu,c4]
    ·refine dw (by simp;omega) (fm (Ev.now _) ?_);have:decide (1≤l[i].f1.size∧l[i].f1.size≤16)=false:=decide_eq_false c2;simp[this]
   ·refine dw c1 (fm (Ev.now _) ?_);simp[c1]
 simpa [dr.f,mr,iz]using key
theorem pR (a b c:Int):bw.f a b c=some (decide (b≤a∧a≤c)):=by
 unfold bw.f
 by_cases h:a≥b
 ·rw[if_pos h];simp[show b≤a from h]
 ·rw[if_neg h];simp[show¬b≤a from h]
theorem wD (l:List ct) (hl:l.length≤1048576) (hn:∀e∈l,e.f0.size≤1048576):Ev (fun k=>cY.f k l) (mr l):=by
 have key:Ev (fun k=>cY.l0 k l l (l.length:Int) (0:Nat)) (lF (iz l 0) (l.drop 0)&&decide (l.length≤4)):=by
  refine down (n:=l.length) (P:=fun i=>Ev (fun k=>cY.l0 k l l (l.length:Int) (i:Nat)) (lF (iz l i) (l.drop i)&&decide (l.length≤4))) ?_ (fun i hi h=> ?_)
  ·rw[List.drop_length]
   apply aV
   simp only[cY.l0,lF];refine dw (by omega) (fm (Ev.now _) ?_);simp;omega
  ·rw[List.drop_eq_getElem_cons hi];rw[pc l i hi]at h
   apply aV
   simp only[cY.l0];refine bp (by omega) ?_;have hname:=oG l[i].f0 (by have:=hn _ (List.getElem_mem hi);omega);have hrd:an l (i:Int)=l[i]:=getD_at l _ i hi;rw[hrd,nt i l.length hi (by omega)];simp only[lF,pR,Option.bind_some];refine bp (by omega) (bp (by omega) (Ev.bind hname ?_))
   by_cases c1:fX l[i].f0=true
   ·refine bp c1 ?_
    by_cases c2:1≤l[i].f1.size∧l[i].f1.size≤16
    ·refine bp (by simp;omega) ?_
     by_cases c3:i=0
     ·subst c3;refine dw (by omega) (fm h ?_);simp[c1,c2,iz,upTo]
     ·rw[lf (n:=(i:Int)-1) (by omega) (by omega)]
      have hu:upTo (iz l i) l[i].f0=Op.bytesLess (an l ((i:Int)-1)).f0.toList l[i].f0.toList:=by unfold iz;rw[if_neg c3];rfl
      refine bp (by omega) (bp (by omega) (bp (by omega) ?_))
      by_cases c4:Op.bytesLess (an l ((i:Int)-1)).f0.toList l[i].f0.toList=true
      ·refine bp c4 (fm h ?_);simp[c1,c2,hu,c4]
      ·refine dw c4 (fm (Ev.now _) ?_);simp[hu,c4]
    ·refine dw (by simp;omega) (fm (Ev.now _) ?_);have:decide (1≤l[i].f1.size∧l[i].f1.size≤16)=false:=decide_eq_false c2;simp[this]
   ·refine dw c1 (fm (Ev.now _) ?_);simp[c1]
 simpa [cY.f,mr,iz]using key
def kindOk (b c:Int) (d:List Int) (e:List ey):Bool:=if b=1 then e.length==0 else if b=2 then d.length==0&&decide (c≤1)else false
def ic (a b c:Int) (d:List Int) (e:List ey) (t:List ct):Bool:=
 decide (1≤a∧a≤1000)&&decide (0≤c∧c≤1000)&&((c==0)==(a==1))&&decide (d.length≤100)&&pv e&&mr t&&kindOk b c d e
theorem qk (b c:Int) (d:List Int) (e:List ey):(if b=1 then(some ((e.length:Int)==0))else(if b=2 then(if(d.length:Int)=0 then(some (decide (c≤1)))else(some false))else(some false)))=some (kindOk b c d e):=by
 unfold kindOk
 have h1:((e.length:Int)==0)=(e.length==0):=by rw[Bool.eq_iff_iff];simp only[beq_iff_eq];omega
 by_cases hb:b=1
 ·rw[if_pos hb,if_pos hb,h1]
 ·rw[if_neg hb,if_neg hb]
  by_cases hb2:b=2
  ·rw[if_pos hb2,if_pos hb2]
   by_cases hd:d.length=0
   ·rw[if_pos (by omega)];simp[hd]
   ·rw[if_neg (by omega)];simp[hd]
  ·rw[if_neg hb2,if_neg hb2]
theorem ql (x y:Bool):(x !=y)= !(x==y):=rfl
theorem tY (a b c:Int) (d:List Int) (e:List ey) (t:List ct) (he:e.length≤1048576) (ht:t.length≤1048576) (hen:∀x∈e,x.f0.size≤1048576) (htn:∀x∈t,x.f0.size≤1048576):
  Ev (fun k=>cL.f k a b c d e t) (ic a b c d e t):=by
 unfold cL.f;simp only[oC,Option.bind_some]
 have no:∀r:Bool,r=false→Ev (fun k=>cL.j0 k true a b c d e t) r:=by
  intro r hr
  try(apply aV;simp only[cL.j0,qk])
  exact bp (by simp) (fm (Ev.now _) hr.symm)
 by_cases c1:1≤a∧a≤1000
 ·refine bp (by simp[c1]) ?_
  by_cases c2:0≤c∧c≤1000
  ·refine bp (by simp[c2]) ?_
   by_cases c3:((c==0)==(a==1))=true
   ·refine dw (by rw[ql,c3];simp) ?_
    by_cases c4:d.length≤100
    ·refine dw (by omega) (Ev.bind (yk e he hen) ?_)
     by_cases c5:pv e=true
     ·refine bp c5 (Ev.bind (wC t ht htn) ?_)
      try(apply aV;simp only[cL.j0,qk])
      by_cases c6:mr t=true
      ·refine dw (by simp[c6]) ?_;refine fm (Ev.now _) ?_;unfold ic;simp only[c1,c2,c3,c4,c5,c6,and_self,decide_true,Bool.true_and]
      ·refine bp (by simp[c6]) (fm (Ev.now _) ?_);simp[ic,c6]
     ·exact dw c5 (no _ (by simp[ic,c5]))
    ·exact bp (by omega) (no _ (by simp[ic,c4]))
   ·refine bp (by rw[ql];simpa using c3) (no _ ?_);unfold ic;rw[Bool.not_eq_true]at c3;simp[c3]
  ·refine dw (by simp;omega) (no _ ?_);have:decide (0≤c∧c≤1000)=false:=decide_eq_false c2;simp[ic,this]
 ·refine dw (by simp;omega) (no _ ?_);have:decide (1≤a∧a≤1000)=false:=decide_eq_false c1;simp[ic,this]
theorem qM (a b c:Int) (d:List Int) (l:List ey) (t:List ct) (hl:l.length≤1048576) (hn:∀x∈l,x.f0.size≤1048576):
  Ev (fun k=>bl.l0 k l (l.length:Int) 0 a b c d l t) (mq none l&&(decide (0≤c∧c≤1000)&&((c==0)==(a==1))&&kindOk b c d l)):=by
 generalize hE:(decide (0≤c∧c≤1000)&&((c==0)==(a==1))&&kindOk b c d l)=E
 have key:Ev (fun k=>bl.l0 k l (l.length:Int) (0:Nat) a b c d l t) (mq (jl l 0) (l.drop 0)&&E):=by
  refine down (n:=l.length) (P:=fun i=>Ev (fun k=>bl.l0 k l (l.length:Int) (i:Nat) a b c d l t) (mq (jl l i) (l.drop i)&&E)) ?_ (fun i hi h=> ?_)
  ·rw[List.drop_length]
   apply aV
   simp only[bl.l0,mq,pR,Option.bind_some];refine dw (by omega) ?_
   have fin:∀x:Bool,(x= !(((c==0)==(a==1))&&decide (0≤c∧c≤1000)))→Ev (fun k=>bl.j2 k x a b c d l t) (true&&E):=by
    intro x hx
    try(apply aV;simp only[bl.j2,qk])
    by_cases cx:x=true
    ·refine bp cx (fm (Ev.now _) ?_);rw[cx]at hx
     have:(((c==0)==(a==1))&&decide (0≤c∧c≤1000))=false:=by
      cases hz:(((c==0)==(a==1))&&decide (0≤c∧c≤1000))with
      |false=>rfl
      |true=>rw[hz]at hx;exact absurd hx (by decide)
     rw[←hE,Bool.and_comm (decide _),this];simp
    ·refine dw cx ?_;refine fm (Ev.now _) ?_
     have:(((c==0)==(a==1))&&decide (0≤c∧c≤1000))=true:=by cases hz:(((c==0)==(a==1))&&decide (0≤c∧c≤1000))<;>simp_all
     rw[←hE,Bool.and_comm (decide _),this];simp
   by_cases c2:0≤c∧c≤1000
   ·exact bp (by simp[c2]) (fin _ (by rw[ql];simp[c2]))
   ·exact dw (by simp;omega) (fin _ (by have:decide (0≤c∧c≤1000)=false:=decide_eq_false c2;simp[this]))
  ·rw[List.drop_eq_getElem_cons hi];rw[pQ l i hi]at h
   apply aV
   simp only[bl.l0];refine bp (by omega) ?_;have hname:=oG l[i].f0 (by have:=hn _ (List.getElem_mem hi);omega);have hrd:al l (i:Int)=l[i]:=getD_at l _ i hi;rw[hrd,nt i l.length hi (by omega)];simp only[mq,pR,Option.bind_some];refine bp (by omega) (bp (by omega) (Ev.bind hname ?_))
   by_cases c1:fX l[i].f0=true
   ·refine bp c1 ?_
    by_cases c2:2≤l[i].f1∧l[i].f1≤1000
    ·refine bp (by simp[c2]) ?_
     by_cases c3:i=0
     ·subst c3;refine dw (by omega) (fm h ?_);simp[c1,c2,jl,upTo]
     ·rw[lf (n:=(i:Int)-1) (by omega) (by omega)]
      have hu:upTo (jl l i) l[i].f0=Op.bytesLess (al l ((i:Int)-1)).f0.toList l[i].f0.toList:=by unfold jl;rw[if_neg c3];rfl
      refine bp (by omega) (bp (by omega) (bp (by omega) ?_))
      by_cases c4:Op.bytesLess (al l ((i:Int)-1)).f0.toList l[i].f0.toList=true
      ·refine bp c4 (fm h ?_);simp[c1,c2,hu,c4]
      ·refine dw c4 (fm (Ev.now _) ?_);simp[hu,c4]
    ·refine dw (by simp;omega) (fm (Ev.now _) ?_);have:decide (2≤l[i].f1∧l[i].f1≤1000)=false:=decide_eq_false c2;simp[this]
   ·refine dw c1 (fm (Ev.now _) ?_);simp[c1]
 simpa [jl]using key
theorem tZ (a b c:Int) (d:List Int) (e:List ey) (t:List ct) (he:e.length≤1048576) (ht:t.length≤1048576) (hen:∀x∈e,x.f0.size≤1048576) (htn:∀x∈t,x.f0.size≤1048576):
  Ev (fun k=>bl.f k a b c d e t) (ic a b c d e t):=by
 unfold bl.f;simp only[pR,Option.bind_some]
 have no:∀r:Bool,r=false→Ev (fun k=>bl.j0 k true a b c d e t) r:=by
  intro r hr
  try(apply aV;simp only[bl.j0])
  exact bp (by simp) (fm (Ev.now _) hr.symm)
 by_cases c1:1≤a∧a≤1000
 ·refine bp (by simp[c1]) ?_
  by_cases c4:d.length≤100
  ·refine dw (by omega) ?_
   by_cases c5:e.length≤10
   ·refine dw (by omega) (Ev.bind (wD t ht htn) ?_)
    try(apply aV;simp only[bl.j0])
    by_cases c6:mr t=true
    ·refine dw (by simp[c6]) ?_;refine fm (qM a b c d e t he hen) ?_;unfold ic pv;simp only[c1,c4,c5,c6,and_self,decide_true,Bool.true_and,Bool.and_true]
     cases mq none e<;>cases decide (0≤c∧c≤1000)<;>cases ((c==0)==(a==1))<;>cases kindOk b c d e<;>rfl
    ·refine bp (by simp[c6]) (fm (Ev.now _) ?_);simp[ic,c6]
   ·exact bp (by omega) (no _ (by simp[ic,pv,c5]))
  ·exact bp (by omega) (no _ (by simp[ic,c4]))
 ·refine dw (by simp;omega) (no _ ?_);have:decide (1≤a∧a≤1000)=false:=decide_eq_false c1;simp[ic,this]
end Go.Proofs.YtlecajlnjmbilaaGreatDoor.Q
namespace Go.Proofs.YtlecajlnjmbilaaGreatDoor.Q
open Go.RowKit Go.Proofs.YtlecajlnjmbilaaGreatDoor.P Go.Proofs.ab.aq Go.Proofs.ab.aM Go.Proofs.ab.aT
def rN (x:bm):Bool:=ic x.f0 x.f1 x.f2 x.f3 x.f4 x.f5
def above (p:Option Int) (n:Int):Bool:=match p with|none=>true|some q=>decide (q<n)
def kI (nx:Int):Option Int→List bm→Bool
 |_,[]=>true
 |p,x::l=>rN x&&decide (x.f0<nx)&&above p x.f0&&kI nx (some x.f0) l
def jm (l:List bm) (i:Nat):Option Int:=if i=0 then none else some (af l ((i:Int)-1)).f0
theorem pS (l:List bm) (i:Nat) (h:i<l.length):jm l (i+1)=some l[i].f0:=by
 unfold jm;rw[if_neg (by omega),show(((i+1:Nat):Int)-1)=(i:Int)from by omega,af,getD_at l _ i h]
structure pT (x:bm):Prop where
 d:x.f3.length≤1048576
 e:x.f4.length≤1048576
 t:x.f5.length≤1048576
 en:∀y∈x.f4,y.f0.size≤1048576
 tn:∀y∈x.f5,y.f0.size≤1048576
theorem abn (x:bm) (h:rN x=true):1≤x.f0:=by
 unfold rN ic at h;simp only[Bool.and_eq_true,decide_eq_true_eq]at h
 omega
theorem wE (nx:Int) (l:List bm):∀(q:Int) (i:Nat),1≤q→kI nx (some q) l=true→cy 1 l i= -1:=by
 induction l with
 |nil=>intros;rfl
 |cons x l ih=>
  intro q i hq h;simp only[kI,above,Bool.and_eq_true,decide_eq_true_eq]at h;rw[cy,if_neg (by omega)];exact ih x.f0 (i+1) (by omega) h.2
theorem wF (nx:Int) (x:bm) (l:List bm) (h:kI nx none (x::l)=true):cy 1 (x::l) 0=if x.f0=1 then 0 else-1:=by
 simp only[kI,Bool.and_eq_true,decide_eq_true_eq]at h;rw[cy]
 split
 ·rfl
 ·exact wE nx l x.f0 1 (abn x h.1.1.1) h.2
def od (l:List bm):Bool:=decide ((af l 0).f0=1)&&((af l 0).f1==2)
theorem sx (l:List bm) (nx:Int) (hl:l.length≤1048576) (hs:∀x∈l,pT x) (hp:0<l.length):
  Ev (fun k=>bs.l0 k 0 l nx) (kI nx none l&&od l):=by
 have key:Ev (fun k=>bs.l0 k (0:Nat) l nx) (kI nx (jm l 0) (l.drop 0)&&od l):=by
  refine down (n:=l.length) (P:=fun i=>Ev (fun k=>bs.l0 k (i:Nat) l nx) (kI nx (jm l i) (l.drop i)&&od l)) ?_ (fun i hi h=> ?_)
  ·rw[List.drop_length]
   apply aV
   simp only[bs.l0,kI];refine dw (by omega) (bp (by omega) ?_)
   by_cases c:(af l 0).f0=1
   ·exact bp c (fm (Ev.now _) (by simp[od,c]))
   ·exact dw c (fm (Ev.now _) (by simp[od,c]))
  ·rw[List.drop_eq_getElem_cons hi];rw[pS l i hi]at h;have hT:=hs l[i] (List.getElem_mem hi);have ho:=tY l[i].f0 l[i].f1 l[i].f2 l[i].f3 l[i].f4 l[i].f5 hT.e hT.t hT.en hT.tn;have hrd:af l (i:Int)=l[i]:=getD_at l _ i hi
   apply aV
   simp only[bs.l0,hrd];rw[nt i l.length hi (by omega)];refine bp (by omega) (bp (by omega) (Ev.bind ho ?_))
   by_cases c1:rN l[i]=true
   ·refine bp c1 ?_
    by_cases c2:l[i].f0<nx
    ·refine dw (by omega) ?_
     by_cases c3:i=0
     ·subst c3;refine dw (by omega) (fm h ?_);simp[kI,c1,c2,jm,above]
     ·rw[lf (n:=(i:Int)-1) (by omega) (by omega)];refine bp (by omega) (bp (by omega) (bp (by omega) ?_))
      have hu:above (jm l i) l[i].f0=decide ((af l ((i:Int)-1)).f0<l[i].f0):=by unfold jm;rw[if_neg c3];rfl
      by_cases c4:(af l ((i:Int)-1)).f0<l[i].f0
      ·refine dw (by omega) (fm h ?_);simp[kI,c1,c2,hu,c4]
      ·refine bp (by omega) (fm (Ev.now _) ?_);simp[kI,hu,c4]
    ·refine bp (by omega) (fm (Ev.now _) ?_);simp[kI,c2]
   ·refine dw c1 (fm (Ev.now _) ?_);simp[kI,c1]
 simpa [jm]using key
theorem sy (l:List bm) (nx:Int) (hl:l.length≤1048576) (hs:∀x∈l,pT x) (E:Bool) (hE:Ev (fun k=>(cP.f k l nx 1).bind fun bt=>(if bt.2.2.2.2.2.2=true then(some (bt.2.1==2))else(some false))) E):
  Ev (fun k=>bu.l0 k l (l.length:Int) 0 l nx) (kI nx none l&&E):=by
 have key:Ev (fun k=>bu.l0 k l (l.length:Int) (0:Nat) l nx) (kI nx (jm l 0) (l.drop 0)&&E):=by
  refine down (n:=l.length) (P:=fun i=>Ev (fun k=>bu.l0 k l (l.length:Int) (i:Nat) l nx) (kI nx (jm l i) (l.drop i)&&E)) ?_ (fun i hi h=> ?_)
  ·rw[List.drop_length]
   apply aV
   simp only[bu.l0,kI];exact dw (by omega) (fm hE (by simp))
  ·rw[List.drop_eq_getElem_cons hi];rw[pS l i hi]at h;have hT:=hs l[i] (List.getElem_mem hi);have ho:=tZ l[i].f0 l[i].f1 l[i].f2 l[i].f3 l[i].f4 l[i].f5 hT.e hT.t hT.en hT.tn;have hrd:af l (i:Int)=l[i]:=getD_at l _ i hi
   apply aV
   simp only[bu.l0,hrd];rw[nt i l.length hi (by omega)];refine bp (by omega) (bp (by omega) (bp (by omega) (Ev.bind ho ?_)))
   by_cases c1:rN l[i]=true
   ·refine bp c1 ?_
    by_cases c2:l[i].f0<nx
    ·refine dw (by omega) ?_
     by_cases c3:i=0
     ·subst c3;refine dw (by omega) (fm h ?_);simp[kI,c1,c2,jm,above]
     ·rw[lf (n:=(i:Int)-1) (by omega) (by omega)];refine bp (by omega) (bp (by omega) (bp (by omega) ?_))
      have hu:above (jm l i) l[i].f0=decide ((af l ((i:Int)-1)).f0<l[i].f0):=by unfold jm;rw[if_neg c3];rfl
      by_cases c4:(af l ((i:Int)-1)).f0<l[i].f0
      ·refine dw (by omega) (fm h ?_);simp[kI,c1,c2,hu,c4]
      ·refine bp (by omega) (fm (Ev.now _) ?_);simp[kI,hu,c4]
    ·refine bp (by omega) (fm (Ev.now _) ?_);simp[kI,c2]
   ·refine dw c1 (fm (Ev.now _) ?_);simp[kI,c1]
 simpa [jm]using key
theorem wG (x:bm) (h:pT x):eD.f x.f0 x.f1 x.f2 x.f3 x.f4 x.f5=some (x.f0,x.f1,x.f2,x.f3,x.f4,x.f5):=by
 have hd:=h.d;have he:=h.e;have ht:=h.t
 have a:cz.f x.f3=some x.f3:=by unfold cz.f;simp;omega
 have b:dv.f x.f4=some x.f4:=by unfold dv.f;simp;omega
 have c:df.f x.f5=some x.f5:=by unfold df.f;simp;omega
 unfold eD.f;rw[a,Option.bind_some,b,Option.bind_some,c,Option.bind_some]
def pd (l:List bm) (nx:Int):Bool:=decide (1≤l.length∧l.length≤30)&&decide (2≤nx∧nx≤1000)&&(kI nx none l&&od l)
theorem t_ (ino:Int) (l:List bm):∀i:Nat,cy ino l i= -1∨((i:Int)≤cy ino l i∧cy ino l i<i+l.length):=by
 induction l with
 |nil=>intro i;exact .inl rfl
 |cons x l ih=>
  intro i;rw[cy]
  split
  ·right;simp only[List.length_cons];omega
  ·rcases ih (i+1)with h|h
   ·exact .inl h
   ·right;simp only[List.length_cons];omega
def atOk (l:List bm):Bool:=if cy 1 l 0<0 then false else((af l (cy 1 l 0)).f1==2)
theorem at_one (l:List bm) (nx:Int) (hl:l.length≤1048576) (hs:∀x∈l,pT x):
  Ev (fun k=>(cP.f k l nx 1).bind fun bt=>(if bt.2.2.2.2.2.2=true then(some (bt.2.1==2))else(some false))) (atOk l):=by
 unfold cP.f eA.f atOk;rw[if_pos (by omega)];simp only[Option.bind_some]
 by_cases c:cy 1 l 0<0
 ·simp only[if_pos c,Option.bind_some];exact Ev.now _
 ·simp only[if_neg c];have hr:=t_ 1 l 0;obtain⟨n,hn⟩:∃n:Nat,cy 1 l 0=n:=⟨(cy 1 l 0).toNat,by omega⟩;rw[hn]at hr c⊢
  have hlt:n<l.length:=by omega
  have hrd:af l (n:Int)=l[n]:=getD_at l _ n hlt;simp only[hrd,wG l[n] (hs _ (List.getElem_mem hlt)),Option.bind_some];rw[if_pos (by omega),if_pos (by omega)];simp only[Option.bind_some,if_true];exact Ev.now _
theorem acw (nx:Int) (l:List bm) (hp:0<l.length):(kI nx none l&&atOk l)=(kI nx none l&&od l):=by
 cases h:kI nx none l with
 |false=>rfl
 |true=>
  cases l with
  |nil=>simp at hp
  |cons x l=>
   have hh:=wF nx x l h;simp only[Bool.true_and,atOk,od,hh];have h0:af (x::l) 0=x:=rfl
   by_cases c:x.f0=1
   ·simp[c,h0]
   ·simp[c,h0]
theorem wH (l:List bm) (nx:Int) (hl:l.length≤1048576) (hs:∀x∈l,pT x):Ev (fun k=>bs.f k l nx) (pd l nx):=by
 unfold bs.f pd;simp only[oC,Option.bind_some]
 have no:∀r:Bool,r=false→Ev (fun k=>bs.j0 k true l nx) r:=by
  intro r hr
  apply aV
  simp only[bs.j0];exact bp (by simp) (fm (Ev.now _) hr.symm)
 by_cases c1:1≤l.length∧l.length≤30
 ·refine bp (by simp;omega) ?_
  by_cases c2:2≤nx∧nx≤1000
  ·apply aV
   simp only[bs.j0];refine dw (by simp[c2]) (fm (sx l nx hl hs (by omega)) ?_);simp[c1,c2]
  ·rw[show decide (2≤nx∧nx≤1000)=false from decide_eq_false c2];exact no _ (by simp)
 ·refine dw (by simp;omega) (no _ ?_);rw[show decide (1≤l.length∧l.length≤30)=false from decide_eq_false c1]
  rfl
theorem wI (l:List bm) (nx:Int) (hl:l.length≤1048576) (hs:∀x∈l,pT x):Ev (fun k=>bu.f k l nx) (pd l nx):=by
 unfold bu.f pd;simp only[pR,Option.bind_some]
 have no:∀r:Bool,r=false→Ev (fun k=>bu.j0 k true l nx) r:=by
  intro r hr
  apply aV
  simp only[bu.j0];exact bp (by simp) (fm (Ev.now _) hr.symm)
 by_cases c1:l.length≤30
 ·refine dw (by omega) ?_
  by_cases c2:2≤nx∧nx≤1000
  ·apply aV
   simp only[bu.j0];refine dw (by simp[c2]) (fm (sy l nx hl hs _ (at_one l nx hl hs)) ?_)
   by_cases c0:1≤l.length
   ·rw[acw nx l c0];simp[c0,c1,c2]
   ·obtain rfl:l=[]:=List.eq_nil_of_length_eq_zero (by omega);simp[kI,atOk,cy]
  ·rw[show decide (2≤nx∧nx≤1000)=false from decide_eq_false c2];exact no _ (by simp)
 ·refine bp (by omega) (no _ ?_);rw[show decide (1≤l.length∧l.length≤30)=false from decide_eq_false (by omega)]
  rfl
end Go.Proofs.YtlecajlnjmbilaaGreatDoor.Q
namespace Go.Proofs.YtlecajlnjmbilaaGreatDoor.Q
open Go.RowKit Go.Proofs.YtlecajlnjmbilaaGreatDoor.P Go.Proofs.ab.aq Go.Proofs.ab.aM Go.Proofs.ab.aT
def fA (n:Int) (e:List ey):Nat:=(e.filter fun x=>decide (x.f1=n)).length
def gw (n:Int) (x:bm):Nat:=if x.f1=2 then fA n x.f4 else 0
def eJ (n:Int) (l:List bm):Nat:=(l.map (gw n)).sum
theorem pe (n:Int) (e:List ey) (j:Nat) (hj:j<e.length):fA n (e.drop j)=(if e[j].f1=n then 1 else 0)+fA n (e.drop (j+1)):=by
 unfold fA;rw[List.drop_eq_getElem_cons hj,List.filter_cons]
 by_cases h:e[j].f1=n
 ·rw[if_pos (by simpa using h),if_pos h,List.length_cons];omega
 ·rw[if_neg (by simpa using h),if_neg h];omega
theorem pU (n:Int) (l:List bm) (j:Nat) (hj:j<l.length):eJ n (l.drop j)=gw n l[j]+eJ n (l.drop (j+1)):=by
 unfold eJ;rw[List.drop_eq_getElem_cons hj,List.map_cons,List.sum_cons]
theorem wJ (L:List bm) (nx n:Int) (hl:L.length≤1048576) (hs:∀x∈L,x.f4.length≤1048576) (hu:eJ n L≤4611686018427387904):Ev (fun k=>bj.f k L nx n) (eJ n L:Int):=by
 have key:∀acc:Nat,acc+eJ n (L.drop 0)≤4611686018427387904→Ev (fun k=>bj.l0 k n (acc:Int) (0:Nat) L nx) ((acc+eJ n (L.drop 0):Nat):Int):=by
  refine down (n:=L.length) (P:=fun i=>∀acc:Nat,acc+eJ n (L.drop i)≤4611686018427387904→Ev (fun k=>bj.l0 k n (acc:Int) (i:Nat) L nx) ((acc+eJ n (L.drop i):Nat):Int)) ?_ (fun i hi ih=> ?_)
  ·intro acc _;rw[List.drop_length]
   apply aV
   simp only[bj.l0];exact dw (by omega) (fm (Ev.now _) (by simp[eJ]))
  ·intro acc hb;rw[pU n L i hi]at hb⊢;have hx:=hs _ (List.getElem_mem hi);have ih:=ih (acc+gw n L[i]) (by omega);rw[←nt i L.length hi (by omega)]at ih;have ih:Ev (fun k=>bj.l0 k n ((acc+gw n L[i]:Nat):Int) (wrap64 ((i:Int)+1)) L nx) ((acc+(gw n L[i]+eJ n (L.drop (i+1))):Nat):Int):=fm ih (by omega);generalize ((acc+(gw n L[i]+eJ n (L.drop (i+1))):Nat):Int)=R at ih⊢
   apply aV
   simp only[bj.l0];refine bp (by omega) ?_;have hrd:af L (i:Int)=L[i]:=getD_at L _ i hi
   have go:∀acc j,Ev (fun k=>bj.l0 k n acc (wrap64 ((i:Int)+1)) L nx) R→Ev (fun k=>bj.j2 k n acc i j false L nx) R:=by
    intro acc j h
    apply aV
    simp only[bj.j2];exact dw (by simp) h
   by_cases hk:L[i].f1=2
   ·unfold gw at ih hb;rw[if_pos hk]at ih hb
    have inner:∀acc:Nat,acc+fA n (L[i].f4.drop 0)≤4611686018427387904→Ev (fun k=>bj.l0 k n ((acc+fA n (L[i].f4.drop 0):Nat):Int) (wrap64 ((i:Int)+1)) L nx) R→Ev (fun k=>bj.l1 k n (acc:Int) i (0:Nat) L nx) R:=by
     refine down (n:=L[i].f4.length) (P:=fun j=>∀acc:Nat,acc+fA n (L[i].f4.drop j)≤4611686018427387904→Ev (fun k=>bj.l0 k n ((acc+fA n (L[i].f4.drop j):Nat):Int) (wrap64 ((i:Int)+1)) L nx) R→Ev (fun k=>bj.l1 k n (acc:Int) i (j:Nat) L nx) R) ?_ (fun j hj ihj=> ?_)
     ·intro acc _ h;rw[List.drop_length]at h
      apply aV
      simp only[bj.l1,hrd];exact bp (by omega) (bp (by omega) (dw (by omega) (go _ _ (by simpa [fA]using h))))
     ·intro acc hb h;rw[pe n _ j hj]at hb h
      apply aV
      simp only[bj.l1,hrd];refine bp (by omega) (bp (by omega) (bp (by omega) ?_))
      apply aV
      simp only[bj.j2,hrd];have hrj:al L[i].f4 (j:Int)=L[i].f4[j]:=getD_at L[i].f4 _ j hj;refine bp (by simp[hk]) (bp (by omega) (bp (by omega) (bp (by omega) (bp (by omega) ?_))));rw[hrj,nt j L[i].f4.length hj (by omega)]
      by_cases he:L[i].f4[j].f1=n
      ·rw[if_pos he]at hb h;refine bp he ?_;rw[lf (n:=(acc:Int)+1) (by omega) (by omega)];have:=ihj (acc+1) (by omega) (by rw[show acc+1+fA n (L[i].f4.drop (j+1))=acc+(1+fA n (L[i].f4.drop (j+1)))from by omega];exact h)
       simpa using this
      ·rw[if_neg he]at hb h;refine dw he (ihj acc (by omega) ?_)
       simpa using h
    exact inner acc (by simp only[List.drop_zero];omega) (by simpa using ih)
   ·unfold gw at ih;rw[if_neg hk]at ih
    apply aV
    simp only[bj.l1,hrd];refine bp (by omega) (bp (by omega) (tM (fun _=> ?_) (fun _=>go _ _ (by simpa using ih))));rw[show(L[i].f1==2)=false from by simp[hk]];exact go _ _ (by simpa using ih)
 have:=key 0 (by simpa using hu)
 simpa [bj.f]using this
theorem wK (L:List bm) (nx n:Int) (hl:L.length≤1048576) (hs:∀x∈L,x.f4.length≤1048576) (hu:eJ n L≤4611686018427387904):Ev (fun k=>b_.f k L nx n) (eJ n L:Int):=by
 have key:∀acc:Nat,acc+eJ n (L.drop 0)≤4611686018427387904→Ev (fun k=>b_.l0 k n (acc:Int) L (L.length:Int) (0:Nat)) ((acc+eJ n (L.drop 0):Nat):Int):=by
  refine down (n:=L.length) (P:=fun i=>∀acc:Nat,acc+eJ n (L.drop i)≤4611686018427387904→Ev (fun k=>b_.l0 k n (acc:Int) L (L.length:Int) (i:Nat)) ((acc+eJ n (L.drop i):Nat):Int)) ?_ (fun i hi ih=> ?_)
  ·intro acc _;rw[List.drop_length]
   apply aV
   simp only[b_.l0];exact dw (by omega) (fm (Ev.now _) (by simp[eJ]))
  ·intro acc hb;rw[pU n L i hi]at hb⊢;have hx:=hs _ (List.getElem_mem hi);have ih:=ih (acc+gw n L[i]) (by omega);rw[←nt i L.length hi (by omega)]at ih;have ih:Ev (fun k=>b_.l0 k n ((acc+gw n L[i]:Nat):Int) L (L.length:Int) (wrap64 ((i:Int)+1))) ((acc+(gw n L[i]+eJ n (L.drop (i+1))):Nat):Int):=fm ih (by omega);generalize ((acc+(gw n L[i]+eJ n (L.drop (i+1))):Nat):Int)=R at ih⊢
   apply aV
   have hrd:af L (i:Int)=L[i]:=getD_at L _ i hi;simp only[b_.l0,hrd];refine bp (by omega) ?_;refine bp (by omega) (bp (by omega) ?_)
   by_cases hk:L[i].f1=2
   ·unfold gw at ih hb;rw[if_pos hk]at ih hb;refine bp hk ?_
    have inner:∀acc:Nat,acc+fA n (L[i].f4.drop 0)≤4611686018427387904→Ev (fun k=>b_.l0 k n ((acc+fA n (L[i].f4.drop 0):Nat):Int) L (L.length:Int) (wrap64 ((i:Int)+1))) R→Ev (fun k=>b_.l1 k n (acc:Int) L (L.length:Int) i L[i].f4 (L[i].f4.length:Int) (0:Nat)) R:=by
     refine down (n:=L[i].f4.length) (P:=fun j=>∀acc:Nat,acc+fA n (L[i].f4.drop j)≤4611686018427387904→Ev (fun k=>b_.l0 k n ((acc+fA n (L[i].f4.drop j):Nat):Int) L (L.length:Int) (wrap64 ((i:Int)+1))) R→Ev (fun k=>b_.l1 k n (acc:Int) L (L.length:Int) i L[i].f4 (L[i].f4.length:Int) (j:Nat)) R) ?_ (fun j hj ihj=> ?_)
     ·intro acc _ h;rw[List.drop_length]at h
      apply aV
      simp only[b_.l1];exact dw (by omega) (by simpa [fA]using h)
     ·intro acc hb h;rw[pe n _ j hj]at hb h
      apply aV
      simp only[b_.l1];have hrj:al L[i].f4 (j:Int)=L[i].f4[j]:=getD_at L[i].f4 _ j hj;refine bp (by omega) (bp (by omega) (bp (by omega) ?_));rw[hrj,nt j L[i].f4.length hj (by omega)]
      by_cases he:L[i].f4[j].f1=n
      ·rw[if_pos he]at hb h;refine bp he ?_;rw[lf (n:=(acc:Int)+1) (by omega) (by omega)];have:=ihj (acc+1) (by omega) (by rw[show acc+1+fA n (L[i].f4.drop (j+1))=acc+(1+fA n (L[i].f4.drop (j+1)))from by omega];exact h)
       simpa using this
      ·rw[if_neg he]at hb h;refine dw he (ihj acc (by omega) ?_)
       simpa using h
    exact inner acc (by simp only[List.drop_zero];omega) (by simpa using ih)
   ·unfold gw at ih;rw[if_neg hk]at ih;exact dw hk (by simpa using ih)
 have:=key 0 (by simpa using hu)
 simpa [b_.f]using this
end Go.Proofs.YtlecajlnjmbilaaGreatDoor.Q
namespace Go.Proofs.YtlecajlnjmbilaaGreatDoor.Q
open Go.RowKit Go.Proofs.YtlecajlnjmbilaaGreatDoor.P Go.Proofs.ab.aq Go.Proofs.ab.aM Go.Proofs.ab.aT
theorem vo (l:List Int):(strOfNums l).size=l.length:=by
 simp[strOfNums,ByteArray.size]
theorem wL (m:Nat):∀(n:Int) (s:ByteArray),0≤n→n≤9223372036854775807→n<10^m→s.size+m≤1000→∃r,Ev (fun k=>bd.l0 k n s) r:=by
 induction m with
 |zero=>
  intro n s h0 _ h1 hs;refine⟨(⟨#[109]⟩:ByteArray)++s,aV ?_⟩;simp only[bd.l0];exact dw (by omega) (bp (by omega) (Ev.now _))
 |succ m ih=>
  intro n s h0 hM h1 hs
  by_cases hn:n>0
  ·have hd:wrap64 (Int.tdiv n 10)=n/10:=by rw[Int.tdiv_eq_ediv_of_nonneg h0];exact lf (by omega) (by omega)
   obtain⟨r,hr⟩:=ih (n/10) ((strOfNums [wrap64 (48+Int.tmod n 10)%256])++s) (by omega) (by omega) (by rw[Int.pow_succ]at h1;omega) (by rw[ByteArray.size_append,vo];simp;omega);refine⟨r,aV ?_⟩;simp only[bd.l0,Option.bind_some,hd];exact bp hn (bp (by rw[vo];simp;omega) hr)
  ·refine⟨(⟨#[109]⟩:ByteArray)++s,aV ?_⟩;simp only[bd.l0];exact dw hn (bp (by omega) (Ev.now _))
theorem abo (n:Int) (h0:1≤n) (h1:n≤9223372036854775807):∃r,Ev (fun k=>bd.f k n) r:=by
 obtain⟨r,h⟩:=wL 19 n ⟨#[]⟩ (by omega) h1 (by omega) (by decide);exact⟨r,by unfold bd.f;exact dw (by omega) h⟩
theorem qA {α:Type}(y:List α) (i:Nat) (v:α) (h:i<y.length):(y.set i v).take (i+1)=y.take i++[v]:=by
 rw[List.take_succ_eq_append_getElem (by simpa using h),List.getElem_set_self,List.take_set_of_le (Nat.le_refl i)]
def sU:Int→List ey→Prop
 |_,[]=>True
 |a,x::l=>Ev (fun k=>bd.f k a) x.f0∧x.f1=a+1∧sU (a+2) l
def sV:Int→List ct→Prop
 |_,[]=>True
 |a,x::l=>Ev (fun k=>bd.f k a) x.f0∧Ev (fun k=>bd.f k (a+1)) x.f1∧sV (a+2) l
theorem abp (l:List ey):∀(a:Int) (i:Nat) (h:i<l.length),sU a l→Ev (fun k=>bd.f k (a+2*i)) l[i].f0∧l[i].f1=a+2*i+1:=by
 induction l with
 |nil=>intro a i h;simp at h
 |cons x l ih=>
  intro a i h hh
  cases i with
  |zero=>exact⟨by simpa using hh.1,by simpa using hh.2.1⟩
  |succ i=>
   obtain⟨h1,h2⟩:=ih (a+2) i (by simpa using h) hh.2.2;rw[show a+2+2*(i:Int)=a+2*((i+1:Nat):Int)from by omega]at h1 h2;exact⟨h1,h2⟩
theorem abq (l:List ct):∀(a:Int) (i:Nat) (h:i<l.length),sV a l→Ev (fun k=>bd.f k (a+2*i)) l[i].f0∧Ev (fun k=>bd.f k (a+2*i+1)) l[i].f1:=by
 induction l with
 |nil=>intro a i h;simp at h
 |cons x l ih=>
  intro a i h hh
  cases i with
  |zero=>exact⟨by simpa using hh.1,by simpa using hh.2.1⟩
  |succ i=>
   obtain⟨h1,h2⟩:=ih (a+2) i (by simpa using h) hh.2.2;rw[show a+2+2*(i:Int)=a+2*((i+1:Nat):Int)from by omega]at h1 h2;exact⟨h1,h2⟩
theorem abr (l:List ey) (a:Int) (h0:1≤a) (h1:a+2*l.length≤4611686018427387904) (hh:sU a l):Ev (fun k=>bz.f k l a) (a+2*l.length):=by
 have key:=down (n:=l.length) (P:=fun i=>Ev (fun k=>bz.l0 k l (a+2*i) (i:Nat)) (a+2*l.length)) (by
   apply aV
   simp only[bz.l0]
   exact dw (by omega) (Ev.now _)) (fun i hi h=>by
   obtain⟨g1,g2⟩:=abp l a i hi hh;have hrd:al l (i:Int)=l[i]:=getD_at l _ i hi
   apply aV
   simp only[bz.l0,hrd];rw[lf (n:=a+2*(i:Int)+1) (by omega) (by omega),lf (n:=a+2*(i:Int)+1+1) (by omega) (by omega),nt i l.length hi (by omega)];refine bp (by omega) (bp (by omega) (Ev.bind g1 (bp rfl (bp g2 ?_))));rw[show a+2*(i:Int)+1+1=a+2*((i+1:Nat):Int)from by omega]
   exact h)
 simpa [bz.f]using key
theorem yl (l:List ct) (a:Int) (h0:1≤a) (h1:a+2*l.length≤4611686018427387904) (hh:sV a l):Ev (fun k=>aN.f k l a) (a+2*l.length):=by
 have key:=down (n:=l.length) (P:=fun i=>Ev (fun k=>aN.l0 k l (a+2*i) (i:Nat)) (a+2*l.length)) (by
   apply aV
   simp only[aN.l0]
   exact dw (by omega) (Ev.now _)) (fun i hi h=>by
   obtain⟨g1,g2⟩:=abq l a i hi hh;have hrd:an l (i:Int)=l[i]:=getD_at l _ i hi
   apply aV
   simp only[aN.l0,hrd];rw[lf (n:=a+2*(i:Int)+1) (by omega) (by omega),lf (n:=a+2*(i:Int)+1+1) (by omega) (by omega),nt i l.length hi (by omega)];refine bp (by omega) (bp (by omega) (Ev.bind g1 (bp rfl (Ev.bind g2 (bp rfl ?_)))));rw[show a+2*(i:Int)+1+1=a+2*((i+1:Nat):Int)from by omega]
   exact h)
 simpa [aN.f]using key
theorem abt (l:List ey) (x:Int) (h0:1≤x) (h1:x+2*l.length≤4611686018427387904):∃r,Ev (fun k=>dg.f k l x) (x+2*l.length,r)∧r.length=l.length∧sU x r:=by
 have key:=down (n:=l.length) (P:=fun i=>∀y:List ey,y.length=l.length→∃r,Ev (fun k=>dg.l0 k y (x+2*i) (i:Nat)) (x+2*l.length,y.take i++r)∧i+r.length=l.length∧sU (x+2*i) r) (by
   intro y hy;refine⟨[],aV ?_,by simp,trivial⟩;simp only[dg.l0];refine dw (by omega) (fm (Ev.now _) ?_)
   rw[←hy,List.take_length,List.append_nil]) (by
   intro i hi h y hy;obtain⟨s,hs⟩:=abo (x+2*i) (by omega) (by omega);obtain⟨r,hr,hl,hh⟩:=h (((y.set i (⟨s,(al y (i:Nat)).f1⟩:ey)).set i (⟨(al (y.set i (⟨s,(al y (i:Nat)).f1⟩:ey)) (i:Nat)).f0,x+2*i+1⟩:ey))) (by simp[hy])
   have e0:(al (y.set i (⟨s,(al y (i:Nat)).f1⟩:ey)) (i:Nat)).f0=s:=by rw[al,getD_at _ _ i (by simpa using(by omega:i<y.length)),List.getElem_set_self]
   have e1:=e0;refine⟨⟨s,x+2*i+1⟩::r,aV ?_,by simp;omega,hs,rfl,by rw[show x+2*(i:Int)+2=x+2*((i+1:Nat):Int)from by omega];exact hh⟩;simp only[dg.l0,Option.bind_some];refine bp (by omega) (Ev.bind hs (bp (by omega) ?_));rw[lf (n:=x+2*(i:Int)+1) (by omega) (by omega),lf (n:=x+2*(i:Int)+1+1) (by omega) (by omega),nt i l.length hi (by omega),show x+2*(i:Int)+1+1=x+2*((i+1:Nat):Int)from by omega];refine fm hr ?_;rw[e1,qA _ _ _ (by simp;omega),List.take_set_of_le (Nat.le_refl i),List.append_assoc]
   rfl)
 obtain⟨r,hr,hl,hh⟩:=key l rfl;exact⟨r,by simpa [dg.f]using hr,by omega,by simpa using hh⟩
theorem ym (l:List ct) (x:Int) (h0:1≤x) (h1:x+2*l.length≤4611686018427387904):∃r,Ev (fun k=>cT.f k l x) (x+2*l.length,r)∧r.length=l.length∧sV x r:=by
 have key:=down (n:=l.length) (P:=fun i=>∀y:List ct,y.length=l.length→∃r,Ev (fun k=>cT.l0 k y (x+2*i) (i:Nat)) (x+2*l.length,y.take i++r)∧i+r.length=l.length∧sV (x+2*i) r) (by
   intro y hy;refine⟨[],aV ?_,by simp,trivial⟩;simp only[cT.l0];refine dw (by omega) (fm (Ev.now _) ?_)
   rw[←hy,List.take_length,List.append_nil]) (by
   intro i hi h y hy;obtain⟨s,hs⟩:=abo (x+2*i) (by omega) (by omega);obtain⟨s2,hs2⟩:=abo (x+2*i+1) (by omega) (by omega);obtain⟨r,hr,hl,hh⟩:=h (((y.set i (⟨s,(an y (i:Nat)).f1⟩:ct)).set i (⟨(an (y.set i (⟨s,(an y (i:Nat)).f1⟩:ct)) (i:Nat)).f0,s2⟩:ct))) (by simp[hy])
   have e1:(an (y.set i (⟨s,(an y (i:Nat)).f1⟩:ct)) (i:Nat)).f0=s:=by rw[an,getD_at _ _ i (by simpa using(by omega:i<y.length)),List.getElem_set_self]
   refine⟨⟨s,s2⟩::r,aV ?_,by simp;omega,hs,hs2,by rw[show x+2*(i:Int)+2=x+2*((i+1:Nat):Int)from by omega];exact hh⟩;simp only[cT.l0,Option.bind_some];rw[lf (n:=x+2*(i:Int)+1) (by omega) (by omega),lf (n:=x+2*(i:Int)+1+1) (by omega) (by omega),nt i l.length hi (by omega),show x+2*(i:Int)+1+1=x+2*((i+1:Nat):Int)from by omega];refine bp (by omega) (Ev.bind hs (bp (by omega) (Ev.bind hs2 (fm hr ?_))));rw[e1,qA _ _ _ (by simp;omega),List.take_set_of_le (Nat.le_refl i),List.append_assoc]
   rfl)
 obtain⟨r,hr,hl,hh⟩:=key l rfl;exact⟨r,by simpa [cT.f]using hr,by omega,by simpa using hh⟩
def acO (a:Int) (d:List Int) (e:List ey) (t:List ct):Prop:=d=marks d.length a∧sU (a+d.length) e∧sV (a+d.length+2*e.length) t
def inW (d:List Int) (e:List ey) (t:List ct):Nat:=d.length+2*e.length+2*t.length
end Go.Proofs.YtlecajlnjmbilaaGreatDoor.Q
namespace Go.Proofs.YtlecajlnjmbilaaGreatDoor.Q
open Go.RowKit Go.Proofs.YtlecajlnjmbilaaGreatDoor.P Go.Proofs.ab.aq Go.Proofs.ab.aM Go.Proofs.ab.aT
def ma (x:bm):Nat:=3+inW x.f3 x.f4 x.f5
def cU (l:List bm):Nat:=(l.map ma).sum
def sW:Int→List bm→Prop
 |_,[]=>True
 |a,x::l=>(x.f0=a∧x.f1=a+1∧x.f2=a+2∧acO (a+3) x.f3 x.f4 x.f5)∧sW (a+ma x) l
theorem abu (l:List bm):∀(x:Int),1≤x→x+cU l≤4611686018427387904→∃r,Ev (fun k=>qq k l x) (x+cU l,r)∧r.length=l.length∧cU r=cU l∧sW x r:=by
 induction l with
 |nil=>intro x _ _;exact⟨[],fm (Ev.now _) (by simp[cU]),rfl,rfl,trivial⟩
 |cons y l ih=>
  intro x h0 h1
  have hw:cU (y::l)=ma y+cU l:=by simp[cU]
  rw[hw]at h1⊢;obtain⟨r,hr,hl,hW,hh⟩:=ih (x+ma y) (by omega) (by omega);have hy:ma y=3+(y.f3.length+2*y.f4.length+2*y.f5.length):=rfl;have g1:=tT y.f3 (x+1+1+1) (by omega) (by omega);obtain⟨e',g2,l2,v2⟩:=abt y.f4 (x+1+1+1+y.f3.length) (by omega) (by omega);obtain⟨t',g3,l3,v3⟩:=ym y.f5 (x+1+1+1+y.f3.length+2*y.f4.length) (by omega) (by omega)
  have hz:ma ⟨x,x+1,x+1+1,marks y.f3.length (x+1+1+1),e',t'⟩=ma y:=by
   simp only[ma,inW,fU,l2,l3]
  refine⟨⟨x,x+1,x+1+1,marks y.f3.length (x+1+1+1),e',t'⟩::r,?_,by simp[hl],by simp only[cU,List.map_cons,List.sum_cons,hz]at hW⊢;omega,⟨rfl,rfl,by dsimp only;omega,?_⟩,by rw[hz];exact hh⟩
  ·simp only[qq,tJ];rw[lf (n:=x+1) (by omega) (by omega),lf (n:=x+1+1) (by omega) (by omega),lf (n:=x+1+1+1) (by omega) (by omega)];refine Ev.bind (Ev.bind g1 (Ev.bind g2 (Ev.bind g3 (Ev.now _)))) ?_;rw[show x+1+1+1+(y.f3.length:Int)+2*y.f4.length+2*y.f5.length=x+ma y from by omega];refine Ev.bind hr (fm (Ev.now _) ?_);rw[show x+((ma y+cU l:Nat):Int)=x+ma y+cU l from by omega]
  ·rw[show x+1+1+1=x+3 from by omega]at v2 v3⊢;exact⟨by rw[fU],by rw[fU];exact v2,by rw[fU,l2];exact v3⟩
theorem sX (l:List bm) (x:Int) (hl:l.length≤1048577) (h0:1≤x) (h1:x+cU l≤4611686018427387904):∃r,Ev (fun k=>eB.f k l x) (x+cU l,r)∧r.length=l.length∧cU r=cU l∧sW x r:=by
 obtain⟨r,hr,z⟩:=abu l x h0 h1;exact⟨r,by unfold eB.f;exact bp (by omega) hr,z⟩
theorem abv (l:List bm) (x:Int) (hl:l.length≤1048576) (h0:1≤x) (h1:x+cU l≤4611686018427387904):∃r,Ev (fun k=>eB.f k l x) (x+cU l,r)∧r.length=l.length∧cU r=cU l∧sW x r:=sX l x (by omega) h0 h1
theorem abw (l:List bm):∀(a:Int) (i:Nat) (h:i<l.length),sW a l→(l[i].f0=a+cU (l.take i)∧l[i].f1=a+cU (l.take i)+1∧l[i].f2=a+cU (l.take i)+2∧acO (a+cU (l.take i)+3) l[i].f3 l[i].f4 l[i].f5):=by
 induction l with
 |nil=>intro a i h;simp at h
 |cons x l ih=>
  intro a i h hh
  cases i with
  |zero=>simpa [cU]using hh.1
  |succ i=>
   have:=ih (a+ma x) i (by simpa using h) hh.2;rw[show a+(ma x:Int)+cU (l.take i)=a+cU ((x::l).take (i+1))from by simp[cU];omega]at this;exact this
theorem wM (l:List bm) (i:Nat) (h:i<l.length):cU (l.take (i+1))=cU (l.take i)+ma l[i]:=by
 unfold cU;rw[List.take_succ_eq_append_getElem h,List.map_append,List.sum_append];simp
theorem abx (l:List bm) (i:Nat):cU (l.take i)≤cU l:=by
 have h:cU l=cU (l.take i)+cU (l.drop i):=by unfold cU;rw[←List.sum_append,←List.map_append,List.take_append_drop]
 omega
end Go.Proofs.YtlecajlnjmbilaaGreatDoor.Q
namespace Go.Proofs.YtlecajlnjmbilaaGreatDoor.Q
open Go.RowKit Go.Proofs.YtlecajlnjmbilaaGreatDoor.P Go.Proofs.ab.aq Go.Proofs.ab.aM Go.Proofs.ab.aT
theorem yn (l:List bm) (nx x:Int) (hl:l.length≤1048577) (h0:1≤x) (h1:x+cU l≤4611686018427387904) (hh:sW x l):Ev (fun k=>fi.f k l nx x) (x+cU l):=by
 have key:=down (n:=l.length) (P:=fun i=>Ev (fun k=>aA.l0 k l (x+cU (l.take i)) (i:Nat)) (x+cU l)) (by
   apply aV
   simp only[aA.l0,List.take_length]
   exact dw (by omega) (Ev.now _)) (fun i hi h=>by
   obtain⟨g0,g1,g2,hd,he,ht⟩:=abw l x i hi hh;have hrd:af l (i:Int)=l[i]:=getD_at l _ i hi;have hw:=wM l i hi;have hle:=abx l (i+1);have hy:ma l[i]=3+(l[i].f3.length+2*l[i].f4.length+2*l[i].f5.length):=rfl;generalize hA:x+(cU (l.take i):Int)=A at g0 g1 g2 hd he ht;have b1:=tU l[i].f3.length (A+3) (by omega) (by omega);rw[←hd]at b1;have b2:=abr l[i].f4 (A+3+l[i].f3.length) (by omega) (by omega) he;have b3:=yl l[i].f5 (A+3+l[i].f3.length+2*l[i].f4.length) (by omega) (by omega) ht
   apply aV
   simp only[aA.l0];refine bp (by omega) ?_
   apply aV
   simp only[aA.j1,hrd];refine bp (by omega) (bp (by omega) (bp g0 ?_))
   apply aV
   simp only[aA.j2,hrd];rw[lf (n:=A+1) (by omega) (by omega)];refine bp (by omega) (bp (by omega) (bp g1 ?_))
   apply aV
   simp only[aA.j3,hrd];rw[lf (n:=A+1+1) (by omega) (by omega)];refine bp (by omega) (bp (by omega) (bp (by omega) ?_))
   apply aV
   simp only[aA.j4,hrd];rw[lf (n:=A+1+1+1) (by omega) (by omega),show A+1+1+1=A+3 from by omega];refine bp (by omega) (bp (by omega) (Ev.bind b1 (dw (by omega) ?_)))
   apply aV
   simp only[aA.j5,hrd];refine bp (by omega) (bp (by omega) (Ev.bind b2 (dw (by omega) (Ev.bind b3 (dw (by omega) ?_)))));rw[nt i l.length hi (by omega)];rw[show A+3+(l[i].f3.length:Int)+2*l[i].f4.length+2*l[i].f5.length=x+cU (l.take (i+1))from by omega]
   exact h)
 unfold fi.f aA.f;refine Ev.bind (a:=x+cU l) ?_ (dw (by omega) (Ev.now _))
 simpa [cU]using key
end Go.Proofs.YtlecajlnjmbilaaGreatDoor.Q
namespace Go.Proofs.YtlecajlnjmbilaaGreatDoor.Q
open Go.RowKit Go.Proofs.YtlecajlnjmbilaaGreatDoor.P Go.Proofs.ab.aq Go.Proofs.ab.aM Go.Proofs.ab.aT
structure hJ (x:bm):Prop where
 d:x.f3.length≤1048576
 e:x.f4.length≤1048576
 t:x.f5.length≤1048576
theorem rO (x:bm) (h:hJ x):eD.f x.f0 x.f1 x.f2 x.f3 x.f4 x.f5=some (x.f0,x.f1,x.f2,x.f3,x.f4,x.f5):=by
 have hd:=h.d;have he:=h.e;have ht:=h.t
 have a:cz.f x.f3=some x.f3:=by unfold cz.f;simp;omega
 have b:dv.f x.f4=some x.f4:=by unfold dv.f;simp;omega
 have c:df.f x.f5=some x.f5:=by unfold df.f;simp;omega
 unfold eD.f;rw[a,Option.bind_some,b,Option.bind_some,c,Option.bind_some]
end Go.Proofs.YtlecajlnjmbilaaGreatDoor.Q
namespace Go.Proofs.YtlecajlnjmbilaaGreatDoor.Q
open Go.RowKit Go.Proofs.YtlecajlnjmbilaaGreatDoor.P Go.Proofs.ab.aq Go.Proofs.ab.aM Go.Proofs.ab.aT
theorem pV (x:bm) (h:hJ x):du.f x.f0 x.f1 x.f2 x.f3 x.f4 x.f5=some (x.f0,x.f1,x.f2,x.f3,x.f4,x.f5):=by
 have hd:=h.d;have he:=h.e;have ht:=h.t;unfold du.f;simp only[Option.bind_some,List.length_nil,List.nil_append];rw[if_pos (by omega),if_pos (by omega),if_pos (by omega)]
end Go.Proofs.YtlecajlnjmbilaaGreatDoor.Q
namespace Go.Proofs.YtlecajlnjmbilaaGreatDoor.Q
open Go.RowKit Go.Proofs.YtlecajlnjmbilaaGreatDoor.P Go.Proofs.ab.aq Go.Proofs.ab.aM Go.Proofs.ab.aT
theorem abh (l:List nc):cU (l.map ju)≤3*qz l:=by
 unfold cU qz
 induction l with
 |nil=>simp
 |cons x l ih=>
  simp only[List.map_cons,List.sum_cons,List.length_cons]
  have:ma (ju x)≤3+3*pP x:=by
   unfold ma inW pP pO ju;simp only[List.length_map]
   omega
  omega
theorem ua (p:bm→Bool) (l:List bm):cU (l.filter p)≤cU l:=by
 unfold cU
 induction l with
 |nil=>simp
 |cons x l ih=>
  rw[List.filter_cons]
  split
  ·simp only[List.map_cons,List.sum_cons];omega
  ·simp only[List.map_cons,List.sum_cons];omega
theorem rP {l:List bm}(h:∀x∈l,hJ x):∀x∈l,x.f3.length≤9223372036854775807∧x.f4.length≤9223372036854775807∧x.f5.length≤9223372036854775807:=fun x hx=>by
 have a:=(h x hx).d;have b:=(h x hx).e;have c:=(h x hx).t
 omega
end Go.Proofs.YtlecajlnjmbilaaGreatDoor.Q
namespace Go.Proofs.YtlecajlnjmbilaaGreatDoor.Q
open Go.RowKit Go.Proofs.YtlecajlnjmbilaaGreatDoor.P Go.Proofs.ab.aq Go.Proofs.ab.aM Go.Proofs.ab.aT
theorem kH (ino:Int) (l:List bm):∀i:Nat,cy ino l i= -1∨((i:Int)≤cy ino l i∧cy ino l i<i+l.length):=by
 induction l with
 |nil=>intro i;exact .inl rfl
 |cons x l ih=>
  intro i;rw[cy]
  split
  ·right;simp only[List.length_cons];omega
  ·rcases ih (i+1)with h|h
   ·exact .inl h
   ·right;simp only[List.length_cons];omega
theorem oI (l:List bm) (nx ino:Int) (hl:l.length≤1048576):Ev (fun k=>cG.f k l nx ino) (cy ino l 0):=by
 have key:=down (n:=l.length) (P:=fun i=>Ev (fun k=>cG.l0 k ino (i:Nat) l nx) (cy ino (l.drop i) i)) (by
   apply aV
   simp only[cG.l0];refine dw (by omega) (fm (Ev.now _) ?_)
   rw[List.drop_length];rfl) (fun i hi h=>by
   have hrd:af l (i:Int)=l[i]:=getD_at l _ i hi
   apply aV
   simp only[cG.l0,hrd];rw[nt i l.length hi (by omega),List.drop_eq_getElem_cons hi,cy];refine bp (by omega) (bp (by omega) ?_)
   by_cases c:l[i].f0=ino
   ·exact bp c (fm (Ev.now _) (by rw[if_pos c]))
   ·exact dw c (fm h (by rw[if_neg c])))
 simpa [cG.f]using key
end Go.Proofs.YtlecajlnjmbilaaGreatDoor.Q
namespace Go.Proofs.YtlecajlnjmbilaaGreatDoor.Q
open Go.RowKit Go.Proofs.YtlecajlnjmbilaaGreatDoor.P Go.Proofs.ab.aq Go.Proofs.ab.aM Go.Proofs.ab.aT
def fo (l:List bm) (ino:Int):bm:=if cy ino l 0<0 then⟨0,0,0,[],[],[]⟩else af l (cy ino l 0)
def eO (l:List bm) (ino:Int):Bool:=decide (0≤cy ino l 0)
theorem iW (l:List bm) (ino:Int) (hs:∀x∈l,hJ x):hJ (fo l ino):=by
 unfold fo
 split
 ·exact⟨by simp,by simp,by simp⟩
 ·rcases kH ino l 0 with h|h
  ·omega
  ·obtain⟨n,hn⟩:∃n:Nat,cy ino l 0=n:=⟨(cy ino l 0).toNat,by omega⟩;rw[hn]at h⊢
   have hlt:n<l.length:=by omega
   have hrd:af l (n:Int)=l[n]:=getD_at l _ n hlt;rw[hrd];exact hs _ (List.getElem_mem hlt)
theorem nC (l:List bm) (nx ino:Int) (hl:l.length≤1048576) (hs:∀x∈l,hJ x):
  Ev (fun k=>cP.f k l nx ino) ((fo l ino).f0,(fo l ino).f1,(fo l ino).f2,(fo l ino).f3,(fo l ino).f4,(fo l ino).f5,eO l ino):=by
 have hc:=iW l ino hs;have hr:=kH ino l 0;unfold cP.f eA.f;refine Ev.bind (bp (by omega) (Ev.now _)) ?_
 by_cases c:cy ino l 0<0
 ·refine bp c (fm (Ev.now _) ?_);simp only[fo,eO,if_pos c,show decide (0≤cy ino l 0)=false from decide_eq_false (by omega)]
 ·have hi:fo l ino=af l (cy ino l 0):=by simp only[fo,if_neg c]
  rw[hi]at hc⊢;refine dw c (bp (by omega) (bp (by omega) ?_));simp only[rO _ hc,Option.bind_some];refine fm (Ev.now _) ?_;simp only[eO,show decide (0≤cy ino l 0)=true from decide_eq_true (by omega)]
end Go.Proofs.YtlecajlnjmbilaaGreatDoor.Q
namespace Go.Proofs.YtlecajlnjmbilaaGreatDoor.Q
open Go.RowKit Go.Proofs.YtlecajlnjmbilaaGreatDoor.P Go.Proofs.ab.aq Go.Proofs.ab.aM Go.Proofs.ab.aT
theorem pW (l:List bm) (nx ino:Int) (hl:l.length≤1048576) (hs:∀x∈l,hJ x):
  Ev (fun k=>fz.f k l nx ino) ((fo l ino).f0,(fo l ino).f1,(fo l ino).f2,(fo l ino).f3,(fo l ino).f4,(fo l ino).f5,eO l ino):=by
 have hc:=iW l ino hs;have hr:=kH ino l 0;unfold fz.f;refine Ev.bind (oI l nx ino hl) ?_
 by_cases c:cy ino l 0<0
 ·refine bp c (fm (Ev.now _) ?_);simp only[fo,eO,if_pos c,show decide (0≤cy ino l 0)=false from decide_eq_false (by omega)]
 ·have hi:fo l ino=af l (cy ino l 0):=by simp only[fo,if_neg c]
  rw[hi]at hc⊢;refine dw c (bp (by omega) (bp (by omega) ?_));simp only[pV _ hc,Option.bind_some];refine fm (Ev.now _) ?_;simp only[eO,show decide (0≤cy ino l 0)=true from decide_eq_true (by omega)]
end Go.Proofs.YtlecajlnjmbilaaGreatDoor.Q
namespace Go.Proofs.YtlecajlnjmbilaaGreatDoor.Q
open Go.RowKit Go.Proofs.YtlecajlnjmbilaaGreatDoor.P Go.Proofs.ab.aq Go.Proofs.ab.aM Go.Proofs.ab.aT
def pX (name:ByteArray):List ey→Int
 |[]=>0
 |e::l=>if e.f0.toList=name.toList then e.f1 else pX name l
theorem wN (a b c:Int) (d:List Int) (e:List ey) (t:List ct) (name:ByteArray) (he:e.length≤9223372036854775807):Ev (fun k=>eT.f k a b c d e t name) (pX name e):=by
 unfold eT.f;refine xo (fun k i=>eT.l0 k name i a b c d e t) e (pX name) ?_ (fun i hi h=> ?_)
 ·apply aV
  simp only[eT.l0];exact dw (by omega) (Ev.now _)
 ·apply aV
  simp only[eT.l0,al,getD_at e _ i hi,pX];refine bp (by omega) (bp (by omega) ?_);rw[nt i e.length hi he];exact evI (fun _=>Ev.now _) (fun _=>h)
theorem wO (a b c:Int) (d:List Int) (e:List ey) (t:List ct) (name:ByteArray) (he:e.length≤9223372036854775807):Ev (fun k=>eU.f k a b c d e t name) (pX name e):=by
 unfold eU.f;refine xo (fun k i=>eU.l0 k name e (e.length:Int) i) e (pX name) ?_ (fun i hi h=> ?_)
 ·apply aV
  simp only[eU.l0];exact dw (by omega) (Ev.now _)
 ·apply aV
  simp only[eU.l0,al,getD_at e _ i hi,pX];refine bp (by omega) (bp (by omega) (bp (by omega) ?_));rw[nt i e.length hi he];exact evI (fun _=>Ev.now _) (fun _=>h)
end Go.Proofs.YtlecajlnjmbilaaGreatDoor.Q
namespace Go.Proofs.YtlecajlnjmbilaaGreatDoor.Q
open Go.RowKit Go.Proofs.YtlecajlnjmbilaaGreatDoor.P Go.Proofs.ab.aq Go.Proofs.ab.aM Go.Proofs.ab.aT
theorem aeg (i:Nat) (n:Nat) (hi:i<n) (hn:n≤9223372036854775807):wrap64 ((i:Int)+1)=((i+1:Nat):Int):=by
 rw[lf (by omega) (by omega)];omega
theorem rdS (l:List ByteArray) (i:Nat) (h:i<l.length):lx ByteArray.empty l (i:Int)=l[i]:=getD_at l _ i h
def sY (l:List ByteArray):Nat:=(l.map ByteArray.size).sum
theorem acx (l:List ByteArray) (hs:∀x∈l,x.size≤1048576):∀i:Nat,∃r,Ev (fun k=>badR k l i) r∧(decide (0≤r))= !(l.all fX):=by
 induction l with
 |nil=>intro i;exact⟨-1,Ev.now _,rfl⟩
 |cons x l ih=>
  intro i;have hx:=oG x (by have:=hs x (List.mem_cons_self ..);omega)
  by_cases c:fX x=true
  ·obtain⟨r,h1,h2⟩:=ih (fun y hy=>hs y (List.mem_cons_of_mem _ hy)) (i+1);refine⟨r,?_,by rw[h2,List.all_cons,c,Bool.true_and]⟩;simp only[badR];exact Ev.bind hx (bp c h1)
  ·refine⟨(i:Int),?_,by simp[c]⟩;simp only[badR];exact Ev.bind hx (dw c (Ev.now _))
def lX (l:List ByteArray):Bool:=l.all fX&&decide (l.length≤30)
theorem wP (l:List ByteArray) (hs:∀x∈l,x.size≤1048576):Ev (fun k=>gx.f k l) (lX l):=by
 unfold gx.f lX
 by_cases c:l.length≤30
 ·obtain⟨r,h1,h2⟩:=acx l hs 0;refine bp c (Ev.bind h1 (fm (Ev.now _) ?_));rw[h2];simp[c]
 ·exact dw c (fm (Ev.now _) (by simp[c]))
end Go.Proofs.YtlecajlnjmbilaaGreatDoor.Q
namespace Go.Proofs.YtlecajlnjmbilaaGreatDoor.Q
open Go.RowKit Go.Proofs.YtlecajlnjmbilaaGreatDoor.P Go.Proofs.ab.aq Go.Proofs.ab.aM Go.Proofs.ab.aT
end Go.Proofs.YtlecajlnjmbilaaGreatDoor.Q
namespace Go.Proofs.YtlecajlnjmbilaaGreatDoor.Q
open Go.RowKit Go.Proofs.YtlecajlnjmbilaaGreatDoor.P Go.Proofs.ab.aq Go.Proofs.ab.aM Go.Proofs.ab.aT
def iL (q:List UInt8):List (List UInt8)→List (List UInt8)
 |[]=>[q]
 |p::ps=>(q++p)::ps
def parts:List UInt8→List (List UInt8)
 |[]=>[[]]
 |b::l=>if b=47 then []::parts l else iL [b] (parts l)
theorem lq (l:List UInt8):parts l≠[]:=by
 cases l with
 |nil=>simp[parts]
 |cons b l=>
  rw[parts]
  split
  ·simp
  ·cases parts l<;>simp[iL]
theorem qB (X:List (List UInt8)) (h:X≠[]):iL [] X=X:=by
 cases X with
 |nil=>exact absurd rfl h
 |cons p ps=>rfl
theorem vp (q r:List UInt8) (X:List (List UInt8)):iL q (iL r X)=iL (q++r) X:=by
 cases X<;>simp[iL]
theorem yo (k:Nat) (b:UInt8) (l:List UInt8) (h:b≠47):Lib.splitK [47] 0 k (b::l)=iL [b] (Lib.splitK [47] 0 k l):=by
 cases k with
 |zero=>rfl
 |succ k=>
  have hp:([47]:List UInt8).isPrefixOf (b::l)=false:=by simp[List.isPrefixOf,Ne.symm h]
  have hix:Lib.index (b::l) [47]=if Lib.index l [47]== -1 then-1 else Lib.index l [47]+1:=by rw[Lib.index,hp];simp
  by_cases hm:Lib.index l [47]= -1
  ·rw[Lib.splitK,Lib.splitK,hix,hm];rfl
  ·have hge:=Lib.index_ge l [47];obtain⟨j,hj⟩:∃j:Nat,Lib.index l [47]=j:=⟨(Lib.index l [47]).toNat,by omega⟩
   have hix':Lib.index (b::l) [47]=((j+1:Nat):Int):=by rw[hix,if_neg (fun e=>hm (beq_iff_eq.1 e)),hj];omega
   have n1:¬(((j+1:Nat):Int)== -1)=true:=fun e=>by have:=beq_iff_eq.1 e;omega
   have n2:¬((j:Int)== -1)=true:=fun e=>by have:=beq_iff_eq.1 e;omega
   rw[Lib.splitK,Lib.splitK,hix',hj,if_neg n1,if_neg n2,Int.toNat_natCast,Int.toNat_natCast];simp[iL]
theorem yp (k:Nat) (l:List UInt8):Lib.splitK [47] 0 (k+1) (47::l)=[]::Lib.splitK [47] 0 k l:=by
 have hix:Lib.index (47::l) [47]=0:=by rw[Lib.index];simp[List.isPrefixOf]
 rw[Lib.splitK,hix,if_neg (by decide)];simp
theorem ub (l:List UInt8):Lib.splitK [47] 0 (Lib.count l [47]) l=parts l:=by
 induction l with
 |nil=>rw[Lib.count_miss (by simp[Lib.index])];rfl
 |cons b l ih=>
  rw[parts]
  by_cases h:b=47
  ·subst h;rw[if_pos rfl,Lib.count_cons_eq,Nat.add_comm,yp,ih]
  ·rw[if_neg h,Lib.count_cons_ne b 47 l h,yo _ _ _ h,ih]
def pw (l:List UInt8):ByteArray:=⟨l.toArray⟩
theorem oe (s:ByteArray):pw s.data.toList=s:=by simp[pw]
theorem vq (l:List UInt8):(pw l).size=l.length:=by rw[←fH];simp[pw]
theorem vr (l:List UInt8):(pw l).data.toList=l:=by simp[pw]
theorem uc (s:ByteArray):Lib.splitB ⟨#[47]⟩ 0 (Lib.countB s ⟨#[47]⟩) s=(parts s.data.toList).map pw:=by
 have h:=Lib.splitB_data ⟨#[47]⟩ 0 (Lib.countB s ⟨#[47]⟩) s;have hc:Lib.countB s ⟨#[47]⟩=Lib.count s.data.toList [47]:=rfl;rw[show(⟨#[47]⟩:ByteArray).data.toList=[47]from rfl,hc,ub]at h;rw[hc,←h,List.map_map]
 conv=>lhs;rw[←List.map_id (Lib.splitB _ _ _ _)]
 apply List.map_congr_left
 intro x _;exact(oe x).symm
theorem yq (l:List UInt8):∀p∈parts l,p.length≤l.length:=by
 induction l with
 |nil=>intro p hp;simp[parts]at hp;subst hp;simp
 |cons b l ih=>
  intro p hp;rw[parts]at hp
  split at hp
  ·rcases List.mem_cons.1 hp with rfl|hp
   ·simp
   ·have:=ih p hp;simp;omega
  ·cases hX:parts l with
   |nil=>exact absurd hX (lq l)
   |cons q X=>
    rw[hX]at hp ih;rcases List.mem_cons.1 hp with rfl|hp
    ·have:=ih q (List.mem_cons_self ..);simp;omega
    ·have:=ih p (List.mem_cons_of_mem _ hp);simp;omega
theorem sZ (l:List UInt8):(parts l).length≤l.length+1:=by
 induction l with
 |nil=>simp[parts]
 |cons b l ih=>
  rw[parts]
  split
  ·simp;omega
  ·cases hX:parts l with
   |nil=>simp[iL]
   |cons q X=>rw[hX]at ih;simp[iL]at ih⊢;omega
def jv (s:ByteArray):List ByteArray×Bool:=
 if s.toList=([47]:List UInt8)then([],true)else
 match(parts s.data.toList).map pw with
 |[]=>([],false)
 |x::l=>if x.toList=[]∧l≠[]∧lX l=true then(l,true)else([],false)
theorem rQ (s:ByteArray) (hs:s.size≤1048576):Ev (fun k=>eV.f k s) (jv s):=by
 unfold eV.f jv;refine evI (fun _=>Ev.now _) (fun _=> ?_)
 have h0:strings_Split.f s ⟨#[47]⟩=some ((parts s.data.toList).map pw):=by
  unfold strings_Split.f;rw[if_pos ⟨by omega,by decide⟩,uc]
 simp only[h0,Option.bind_some];have hps:=yq s.data.toList;have hsz:s.data.toList.length=s.size:=fH s;have hpl:=sZ s.data.toList
 cases hX:parts s.data.toList with
 |nil=>exact absurd hX (lq _)
 |cons p ps=>
  rw[hX]at hps hpl;rw[List.map_cons];refine bp (by rw[List.length_cons];omega) ?_;have hr:lx ByteArray.empty (pw p::ps.map pw) 0=pw p:=rfl;simp only[hr]
  by_cases c:(pw p).toList=[]
  ·refine bp c ?_
   cases hq:ps with
   |nil=>exact bp (by simp) (fm (Ev.now _) (by simp))
   |cons q qs=>
    rw[←hq]
    have hne:ps.map pw≠[]:=by rw[hq];simp
    have hl:0<ps.length:=by rw[hq];simp
    refine dw (by simp;omega) (bp (by simp;omega) ?_)
    have hn:=wP (ps.map pw) (by
     intro x hx;obtain⟨y,hy,rfl⟩:=List.mem_map.1 hx;rw[vq];have:=hps y (List.mem_cons_of_mem _ hy)
     omega)
    refine Ev.bind hn ?_
    by_cases g:lX (ps.map pw)=true
    ·exact bp g (fm (Ev.now _) (by rw[if_pos ⟨c,hne,g⟩];rfl))
    ·exact dw g (fm (Ev.now _) (by rw[if_neg (fun h=>g h.2.2)]))
  ·exact dw c (fm (Ev.now _) (by rw[if_neg (fun h=>c h.1)]))
def proc:List ByteArray→List (List UInt8)→Option (List ByteArray)
 |out,[]=>some out
 |out,p::ps=>if fX (pw p)=true then(if out.length=30 then none else proc (out++[pw p]) ps)else none
theorem acy (ps:List (List UInt8)):∀out:List ByteArray,out.length≤30→proc out ps=if(ps.map pw).all fX=true∧out.length+ps.length≤30 then some (out++ps.map pw)else none:=by
 induction ps with
 |nil=>intro out h;simp[proc,h]
 |cons p ps ih=>
  intro out h;rw[proc]
  by_cases c:fX (pw p)=true
  ·rw[if_pos c]
   by_cases d:out.length=30
   ·rw[if_pos d,if_neg (by simp;omega)]
   ·rw[if_neg d,ih _ (by simp;omega)];simp only[List.map_cons,List.all_cons,c,Bool.true_and,List.length_append,List.length_cons,List.length_nil,List.append_assoc,List.singleton_append]
    congr 1
    simp only[Nat.zero_add,Nat.add_assoc,Nat.add_comm 1]
  ·rw[if_neg c,if_neg (by simp[c])]
def ud (s:ByteArray):Option (List ByteArray)→List ByteArray×Bool
 |none=>([],false)
 |some out=>if s.data.toList.head? =some 47 then(out,true)else([],false)
theorem ue (s:ByteArray) (i:Nat) (h:i<s.size):bt s (i:Int)=((s.data.toList[i]'(by rw[fH];exact h)).toNat:Int):=by
 rw[←iu s (i:Int) (by rw[Int.toNat_natCast];exact h)];simp only[Int.toNat_natCast]
 rfl
theorem u47 (b:UInt8):((b.toNat:Int)=47)↔b=47:=by
 constructor
 ·intro h
  have:b.toNat=47:=by omega
  exact UInt8.toNat_inj.1 (this.trans rfl)
 ·rintro rfl;rfl
theorem og (s:ByteArray) (out:List ByteArray) (i f:Int) (k:Nat) (h:¬i≤(s.size:Int)):bb.l0 (k+1) s out f i=some (ud s (some out)):=by
 simp only[bb.l0];rw[if_neg h];have hsz:s.data.toList.length=s.size:=fH s
 cases hd:s.data.toList with
 |nil=>
  rw[hd]at hsz;rw[if_pos (by simp at hsz;omega)];simp[ud,hd]
 |cons b l=>
  have hl:0<s.size:=by rw[←hsz,hd];simp
  rw[if_neg (by omega),if_pos (by omega)];have hb:=ue s 0 hl;simp only[hd,List.getElem_cons_zero]at hb;have hb':bt s 0=(b.toNat:Int):=hb;rw[hb']
  by_cases c:b=47
  ·rw[if_pos ((u47 b).2 c)];simp[ud,hd,c]
  ·rw[if_neg (fun h=>c ((u47 b).1 h))];simp[ud,hd,c]
theorem drop_at (s:ByteArray) (i:Nat) (h:i<s.size):s.data.toList.drop i=(s.data.toList[i]'(by rw[fH];exact h))::s.data.toList.drop (i+1):=List.drop_eq_getElem_cons _
theorem nH (s:ByteArray) (hs:s.size≤1048576):∀(n i f:Nat) (out:List ByteArray),1≤i→i≤s.size→f≤i→s.size-i=n→out.length≤30→
  Ev (fun k=>bb.l0 k s out f i) (ud s (proc out (iL ((s.data.toList.drop f).take (i-f)) (parts (s.data.toList.drop i))))):=by
 have hsz:s.data.toList.length=s.size:=fH s;intro n
 induction n with
 |zero=>
  intro i f out h1 hi hf hn ho
  obtain rfl:i=s.size:=by omega
  have hx:(s.extract f s.size)=pw ((s.data.toList.drop f).take (s.size-f)):=by
   rw[←oe (s.extract f s.size)]
   congr 1
   rw[Lib.extract_data]
  have hsl:(s.extract f s.size).size≤9223372036854775807:=by rw[ByteArray.size_extract];omega
  rw[List.drop_eq_nil_of_le (by omega:s.data.toList.length≤s.size)];have hnm:=nr (s.extract f s.size) hsl
  apply aV
  simp only[bb.l0];refine bp (by omega) (dw (by omega) ?_)
  apply aV
  simp only[bb.j1];refine dw (by simp) (bp (by omega) (bp (by omega) (bp (by omega) (bp (by omega) ?_))));simp only[Int.toNat_natCast];refine Ev.bind hnm ?_;rw[hx];simp only[parts,iL,List.append_nil,proc]
  by_cases c:fX (pw ((s.data.toList.drop f).take (s.size-f)))=true
  ·refine bp c ?_;rw[if_pos c]
   by_cases d:out.length=30
   ·rw[if_pos d];exact bp (by omega) (Ev.now _)
   ·rw[if_neg d];refine dw (by omega) (bp (by omega) ?_)
    apply aV
    rw[lf (by omega) (by omega)];simp only[og s _ _ _ _ (show¬((s.size:Int)+1)≤(s.size:Int) by omega)];exact Ev.now _
  ·rw[if_neg c];exact dw c (Ev.now _)
 |succ n ih=>
  intro i f out h1 hi hf hn ho
  have hlt:i<s.size:=by omega
  have hb:=ue s i hlt;have hd:=drop_at s i hlt;generalize hB:(s.data.toList[i]'(by rw[fH];exact hlt))=B at hb hd
  have hnx:wrap64 ((i:Int)+1)=((i+1:Nat):Int):=by rw[lf (by omega) (by omega)];omega
  have htk:(s.data.toList.drop f).take (i+1-f)=(s.data.toList.drop f).take (i-f)++[B]:=by
   rw[show i+1-f=(i-f)+1 by omega,List.take_succ_eq_append_getElem (by rw[List.length_drop];omega)]
   congr 2
   rw[List.getElem_drop];simp only[show f+(i-f)=i by omega];exact hB
  apply aV
  simp only[bb.l0];refine bp (by omega) (bp (by omega) (bp (by omega) ?_))
  apply aV
  simp only[bb.j1];rw[hb,hnx]
  by_cases c:B=47
  ·have hx:(s.extract f i)=pw ((s.data.toList.drop f).take (i-f)):=by
    rw[←oe (s.extract f i)]
    congr 1
    rw[Lib.extract_data]
   have hsl:(s.extract f i).size≤9223372036854775807:=by rw[ByteArray.size_extract];omega
   have hnm:=nr (s.extract f i) hsl;rw[hd,parts,if_pos c];refine dw (by simp[(u47 B).2 c]) (bp (by omega) (bp (by omega) (bp (by omega) (bp (by omega) ?_))));simp only[Int.toNat_natCast];refine Ev.bind hnm ?_;rw[hx];simp only[iL,List.append_nil,proc]
   by_cases cn:fX (pw ((s.data.toList.drop f).take (i-f)))=true
   ·refine bp cn ?_;rw[if_pos cn]
    by_cases d:out.length=30
    ·rw[if_pos d];exact bp (by omega) (Ev.now _)
    ·rw[if_neg d];refine dw (by omega) (bp (by omega) ?_);have:=ih (i+1) (i+1) (out++[pw ((s.data.toList.drop f).take (i-f))]) (by omega) (by omega) (Nat.le_refl _) (by omega) (by simp;omega);rw[Nat.sub_self,List.take_zero,qB _ (lq _)]at this;exact this
   ·rw[if_neg cn];exact dw cn (Ev.now _)
  ·rw[hd,parts,if_neg c,vp,←htk];refine bp (by simpa using fun h=>c ((u47 B).1 h)) ?_;exact ih (i+1) f out (by omega) (by omega) (by omega) (by omega) ho
theorem rR (s:ByteArray) (hs:s.size≤1048576):Ev (fun k=>bb.f k s) (jv s):=by
 have hsz:s.data.toList.length=s.size:=fH s;unfold bb.f jv;simp only[Option.bind_some];refine evI (fun _=>Ev.now _) (fun _=> ?_)
 cases hd:s.data.toList with
 |nil=>
  rw[hd]at hsz
  have h0:s.size=0:=by simpa using hsz.symm
  apply aV
  simp only[bb.l0];refine bp (by omega) (dw (by omega) ?_)
  apply aV
  simp only[bb.j1];refine dw (by simp) (dw (by omega) ?_)
  apply aV
  simp only[og s _ _ _ _ (show¬(wrap64 (0+1))≤(s.size:Int) by rw[h0,lf (by omega) (by omega)];omega)];exact fm (Ev.now _) (by simp[ud,hd,parts])
 |cons b l=>
  have hl:0<s.size:=by rw[←hsz,hd];simp
  have hb:=ue s 0 hl;simp only[hd,List.getElem_cons_zero]at hb;have hb':bt s 0=(b.toNat:Int):=hb
  apply aV
  simp only[bb.l0];refine bp (by omega) (bp (by omega) (bp (by omega) ?_))
  apply aV
  simp only[bb.j1];rw[hb',show wrap64 (0+1)=((1:Nat):Int)from lf (by omega) (by omega)]
  by_cases c:b=47
  ·refine dw (by simp[(u47 b).2 c]) (dw (by omega) ?_);have:=nH s hs (s.size-1) 1 1 [] (by omega) (by omega) (Nat.le_refl _) rfl (by simp);refine fm this ?_;rw[Nat.sub_self,List.take_zero,qB _ (lq _),acy _ _ (by simp),hd,parts,if_pos c];simp only[List.drop_succ_cons,List.drop_zero,List.map_cons,List.length_nil,Nat.zero_add,List.nil_append]
   have hne:(parts l).map pw≠[]:=by
    intro h;exact lq l (List.map_eq_nil_iff.1 h)
   have he:(pw []).toList=[]:=by rw[toList_data,vr]
   by_cases g:lX ((parts l).map pw)=true
   ·have g':=g;simp only[lX,List.length_map,Bool.and_eq_true,decide_eq_true_eq]at g';rw[if_pos g',if_pos ⟨he,hne,g⟩];simp[ud,hd,c]
   ·have g':¬(((parts l).map pw).all fX=true∧(parts l).length≤30):=by
     intro h;apply g;simp only[lX,List.length_map,Bool.and_eq_true,decide_eq_true_eq];exact h
    rw[if_neg g',if_neg (fun h=>g h.2.2)]
    rfl
  ·refine bp (by simpa using fun h=>c ((u47 b).1 h)) ?_;have:=nH s hs (s.size-1) 1 0 [] (by omega) (by omega) (by omega) rfl (by simp);refine fm this ?_
   have hf:∀x,ud s x=([],false):=by
    intro x
    cases x with
    |none=>rfl
    |some out=>simp[ud,hd,c]
   rw[hf,parts,if_neg c]
   cases hX:parts l with
   |nil=>exact absurd hX (lq l)
   |cons p ps=>
    simp only[iL,List.map_cons];rw[if_neg];intro h;have:=h.1;rw[toList_data,vr]at this;simp at this
end Go.Proofs.YtlecajlnjmbilaaGreatDoor.Q
namespace Go.Proofs.YtlecajlnjmbilaaGreatDoor.Q
open Go.RowKit Go.Proofs.YtlecajlnjmbilaaGreatDoor.P Go.Proofs.ab.aq Go.Proofs.ab.aM Go.Proofs.ab.aT
theorem wQ (l:List (List UInt8)):sY (l.map pw)=(l.map List.length).sum:=by
 unfold sY;rw[List.map_map];exact congrArg List.sum (List.map_congr_left fun x _=>vq x)
theorem yr (l:List UInt8):((parts l).map List.length).sum≤l.length:=by
 induction l with
 |nil=>simp[parts]
 |cons b l ih=>
  rw[parts]
  split
  ·simp;omega
  ·cases hX:parts l with
   |nil=>exact absurd hX (lq l)
   |cons q X=>rw[hX]at ih;simp[iL]at ih⊢;omega
theorem qC (s:ByteArray):(jv s).1.length≤s.size∧sY (jv s).1≤s.size:=by
 have h1:=sZ s.data.toList;have h2:=yr s.data.toList;rw[fH]at h1 h2;unfold jv
 split
 ·simp[sY]
 ·split
  ·simp[sY]
  ·rename_i x l hX
   split
   ·cases hP:parts s.data.toList with
    |nil=>exact absurd hP (lq _)
    |cons p ps=>
     rw[hP]at hX h1 h2;simp only[List.map_cons,List.cons.injEq]at hX;obtain⟨_,rfl⟩:=hX;simp only[List.length_map,wQ];simp only[List.map_cons,List.sum_cons,List.length_cons]at h1 h2
     omega
   ·simp[sY]
end Go.Proofs.YtlecajlnjmbilaaGreatDoor.Q
namespace Go.Proofs.YtlecajlnjmbilaaGreatDoor.Q
open Go.RowKit Go.Proofs.YtlecajlnjmbilaaGreatDoor.P Go.Proofs.ab.aq Go.Proofs.ab.aM Go.Proofs.ab.aT
def ta (T:List bm):List ByteArray→Int→Int×Int
 |[],ino=>(ino,0)
 |n::l,ino=>if eO T ino=true then(if(fo T ino).f1=2 then(if pX n (fo T ino).f4=0 then(0,2)else ta T l (pX n (fo T ino).f4))else(0,3))else(0,2)
def lH (T:List bm) (s:ByteArray):Int×Int:=if(jv s).2=true then ta T (jv s).1 1 else(0,1)
theorem vt {γ:Type}(L:Nat→Int→Int→Option γ) (xs:List ByteArray) (F:List ByteArray→Int→γ) (h1:∀ino,Ev (fun k=>L k ino (xs.length:Nat)) (F [] ino))
  (h2:∀(i:Nat) (hi:i<xs.length) (ino:Int),(∀aeh,Ev (fun k=>L k aeh ((i+1:Nat):Int)) (F (xs.drop (i+1)) aeh))→Ev (fun k=>L k ino (i:Nat)) (F (xs[i]::xs.drop (i+1)) ino)) (ino:Int):Ev (fun k=>L k ino 0) (F xs ino):=by
 have key:∀m i:Nat,xs.length-i=m→i≤xs.length→∀ino,Ev (fun k=>L k ino (i:Nat)) (F (xs.drop i) ino):=by
  intro m
  induction m with
  |zero=>
   intro i hm hi ino
   obtain rfl:i=xs.length:=by omega
   rw[List.drop_length];exact h1 ino
  |succ m ih=>
   intro i hm hi ino;rw[List.drop_eq_getElem_cons (by omega)];exact h2 i (by omega) ino (ih (i+1) (by omega) (by omega))
 simpa using key xs.length 0 (by omega) (by omega) ino
theorem yt (T:List bm) (nx:Int) (s:ByteArray) (hT:T.length≤1048576) (hs:∀x∈T,hJ x) (h:s.size≤1048576):Ev (fun k=>fg.f k T nx s) (lH T s):=by
 unfold fg.f lH;refine Ev.bind (rQ s h) ?_;have hl:=(qC s).1;generalize jv s=p at*;refine evI (fun _=> ?_) (fun _=>Ev.now _);refine vt (fun k ino i=>fg.l0 k ino p.1 p.1.length i T nx) p.1 (ta T) (fun ino=> ?_) (fun i hi ino ih=> ?_) 1
 ·apply aV
  simp only[fg.l0];exact dw (by omega) (Ev.now _)
 ·have hx:=iW T ino hs
  apply aV
  simp only[fg.l0,ta];rw[aeg i p.1.length hi (by omega),rdS p.1 i hi];refine bp (by omega) (bp (by omega) (bp (by omega) (Ev.bind (nC T nx ino hT hs) ?_)));refine evI (fun _=>evI (fun _=> ?_) (fun _=>Ev.now _)) (fun _=>Ev.now _);refine Ev.bind (wO _ _ _ _ _ _ p.1[i] (by have:=hx.e;dsimp only;omega)) ?_;exact evI (fun _=>Ev.now _) (fun _=>ih _)
theorem yu (T:List bm) (nx:Int) (s:ByteArray) (hT:T.length≤1048576) (hs:∀x∈T,hJ x) (h:s.size≤1048576):Ev (fun k=>jx.f k T nx s) (lH T s):=by
 unfold jx.f lH;refine Ev.bind (rR s h) ?_;have hl:=(qC s).1;generalize jv s=p at*;refine evI (fun _=> ?_) (fun _=>Ev.now _);unfold cN.f;refine Ev.bind (vt (fun k ino i=>cN.l0 k p.1 ino i T nx) p.1 (ta T) (fun ino=> ?_) (fun i hi ino ih=> ?_) 1) (Ev.now _)
 ·apply aV
  simp only[cN.l0];exact dw (by omega) (Ev.now _)
 ·have hx:=iW T ino hs;have hr:=kH ino T 0
  apply aV
  simp only[cN.l0,ta];rw[aeg i p.1.length hi (by omega),rdS p.1 i hi];refine bp (by omega) (Ev.bind (oI T nx ino hT) ?_)
  by_cases c:cy ino T 0<0
  ·have hn:¬eO T ino=true:=by simp only[eO,decide_eq_true_eq];omega
   rw[if_neg hn];exact bp c (Ev.now _)
  ·have hy:eO T ino=true:=by simp only[eO,decide_eq_true_eq];omega
   have hi':fo T ino=af T (cy ino T 0):=by simp only[fo,if_neg c]
   rw[if_pos hy,hi'];rw[hi']at hx;refine dw c (bp (by omega) (bp (by omega) (evI (fun _=>bp (by omega) ?_) (fun _=>Ev.now _))));refine Ev.bind (wN _ _ _ _ _ _ p.1[i] (by have:=hx.e;omega)) ?_;exact evI (fun _=>Ev.now _) (fun _=>ih _)
end Go.Proofs.YtlecajlnjmbilaaGreatDoor.Q
namespace Go.Proofs.YtlecajlnjmbilaaGreatDoor.Q
open Go.RowKit Go.Proofs.YtlecajlnjmbilaaGreatDoor.P Go.Proofs.ab.aq Go.Proofs.ab.aM Go.Proofs.ab.aT
def uf:bm:=⟨0,0,0,[],[],[]⟩
def ka (T:List bm) (s:ByteArray):bm×Int:=
 if(lH T s).2=0 then(if eO T (lH T s).1=true then(fo T (lH T s).1,0)else(uf,2))else(uf,(lH T s).2)
def tup (p:bm×Int):Int×Int×Int×List Int×List ey×List ct×Int:=(p.1.f0,p.1.f1,p.1.f2,p.1.f3,p.1.f4,p.1.f5,p.2)
theorem ob (T:List bm) (s:ByteArray) (hs:∀x∈T,hJ x):hJ (ka T s).1:=by
 unfold ka
 split
 ·split
  ·exact iW T _ hs
  ·exact⟨by simp[uf],by simp[uf],by simp[uf]⟩
 ·exact⟨by simp[uf],by simp[uf],by simp[uf]⟩
theorem yv (T:List bm) (nx:Int) (s:ByteArray) (hT:T.length≤1048576) (hs:∀x∈T,hJ x) (h:s.size≤1048576):Ev (fun k=>ij.f k T nx s) (tup (ka T s)):=by
 unfold ij.f;refine Ev.bind (yt T nx s hT hs h) ?_
 by_cases c:(lH T s).2=0
 ·refine bp c (Ev.bind (nC T nx _ hT hs) ?_)
  by_cases d:eO T (lH T s).1=true
  ·exact bp d (fm (Ev.now _) (by simp only[ka,tup,if_pos c,if_pos d]))
  ·exact dw d (fm (Ev.now _) (by simp only[ka,tup,if_pos c,if_neg d];rfl))
 ·exact dw c (fm (Ev.now _) (by simp only[ka,tup,if_neg c];rfl))
theorem yw (T:List bm) (nx:Int) (s:ByteArray) (hT:T.length≤1048576) (hs:∀x∈T,hJ x) (h:s.size≤1048576):Ev (fun k=>kG.f k T nx s) (tup (ka T s)):=by
 unfold kG.f;refine Ev.bind (yu T nx s hT hs h) ?_
 by_cases c:(lH T s).2=0
 ·refine bp c (Ev.bind (pW T nx _ hT hs) ?_)
  by_cases d:eO T (lH T s).1=true
  ·exact bp d (fm (Ev.now _) (by simp only[ka,tup,if_pos c,if_pos d]))
  ·exact dw d (fm (Ev.now _) (by simp only[ka,tup,if_pos c,if_neg d];rfl))
 ·exact dw c (fm (Ev.now _) (by simp only[ka,tup,if_neg c];rfl))
end Go.Proofs.YtlecajlnjmbilaaGreatDoor.Q
namespace Go.Proofs.YtlecajlnjmbilaaGreatDoor.Q
open Go.RowKit Go.Proofs.YtlecajlnjmbilaaGreatDoor.P Go.Proofs.ab.aq Go.Proofs.ab.aM Go.Proofs.ab.aT
theorem wR:∀(a b:List Int),a.Pairwise (·<·)→b.Pairwise (·<·)→(∀x,x∈a↔x∈b)→a=b
 |[],[],_,_,_=>rfl
 |[],y::b,_,_,h=>absurd ((h y).2 (List.mem_cons_self ..)) (by simp)
 |x::a,[],_,_,h=>absurd ((h x).1 (List.mem_cons_self ..)) (by simp)
 |x::a,y::b,ha,hb,h=>by
  obtain⟨ha1,ha2⟩:=List.pairwise_cons.1 ha;obtain⟨hb1,hb2⟩:=List.pairwise_cons.1 hb
  have hxy:x=y:=by
   rcases List.mem_cons.1 ((h x).1 (List.mem_cons_self ..))with h1|h1
   ·exact h1
   ·rcases List.mem_cons.1 ((h y).2 (List.mem_cons_self ..))with h2|h2
    ·exact h2.symm
    ·have:=hb1 x h1;have:=ha1 y h2;omega
  subst hxy;rw[wR a b ha2 hb2 (fun z=> ?_)]
  constructor
  ·intro hz;rcases List.mem_cons.1 ((h z).1 (List.mem_cons_of_mem _ hz))with rfl|h1
   ·have:=ha1 z hz;omega
   ·exact h1
  ·intro hz;rcases List.mem_cons.1 ((h z).2 (List.mem_cons_of_mem _ hz))with rfl|h1
   ·have:=hb1 z hz;omega
   ·exact h1
theorem yx (l:List Int) (x:Int):x∈nF l↔x∈l:=List.mem_mergeSort ..
theorem aby (l:List Int) (h:l.Nodup):(nF l).Pairwise (·<·):=by
 have h1:(nF l).Pairwise fun x y=>decide (x≤y)=true:=List.pairwise_mergeSort (fun a b c h1 h2=>by simp at*;omega) (fun a b=>by simp;omega) l
 have h2:(nF l).Nodup:=(List.mergeSort_perm l _).nodup_iff.2 h;exact(h1.and h2).imp (fun⟨a,b⟩=>by simp at a;omega)
def um (xs:List Int) (n:Int):Nat→Nat
 |0=>0
 |k+1=>if xs.getD k 0>n then um xs n k else k+1
def rT (xs:List Int) (n:Int):List Int:=if n∈xs then xs else xs.take (um xs n xs.length)++[n]++xs.drop (um xs n xs.length)
theorem abz (xs:List Int) (n:Int):∀k,um xs n k≤k
 |0=>Nat.le_refl _
 |k+1=>by rw[um];split;exact Nat.le_succ_of_le (abz xs n k);exact Nat.le_refl _
theorem vu (xs:List Int) (n x:Int):x∈rT xs n↔x∈xs∨x=n:=by
 unfold rT
 split
 ·constructor
  ·exact .inl
  ·rintro(h|rfl)<;>assumption
 ·rw[List.mem_append,List.mem_append,List.mem_singleton]
  conv=>rhs;rw[←List.take_append_drop (um xs n xs.length) xs,List.mem_append]
  constructor
  ·rintro((h|h)|h)
   ·exact .inl (.inl h)
   ·exact .inr h
   ·exact .inl (.inr h)
  ·rintro((h|h)|h)
   ·exact .inl (.inl h)
   ·exact .inr h
   ·exact .inl (.inr h)
theorem abA (xs:List Int) (n:Int):∀k,k≤xs.length→∀j,um xs n k≤j→j<k→xs.getD j 0>n
 |0,_,j,_,h=>by omega
 |k+1,hk,j,h1,h2=>by
  rw[um]at h1
  split at h1
  ·rcases Nat.lt_or_ge j k with h|h
   ·exact abA xs n k (by omega) j h1 h
   ·obtain rfl:j=k:=by omega
    assumption
  ·omega
theorem abB (xs:List Int) (n:Int):∀k,0<um xs n k→¬xs.getD (um xs n k-1) 0>n
 |0,h=>by simp[um]at h
 |k+1,h=>by
  rw[um]at h⊢
  split
  ·rename_i hc;rw[if_pos hc]at h;exact abB xs n k h
  ·rename_i hc;simpa using hc
theorem xr (xs:List Int) (n:Int) (h:xs.Pairwise (·<·)):(rT xs n).Pairwise (·<·):=by
 unfold rT
 split
 ·exact h
 ·rename_i hn
  have hle:=abz xs n xs.length;have hgt:=abA xs n xs.length (Nat.le_refl _);have hat:=abB xs n xs.length;generalize um xs n xs.length=j at hle hgt hat;have hp:=List.pairwise_iff_getElem.1 h
  have h1:∀a∈xs.take j,a<n:=fun a ha=>by
   obtain⟨i,hi,rfl⟩:=List.getElem_of_mem ha;rw[List.length_take]at hi;rw[List.getElem_take];have hj:=hat (by omega);rw[List.getD_eq_getElem?_getD,List.getElem?_eq_getElem (by omega),Option.getD_some]at hj
   have hne:xs[j-1]≠n:=fun e=>hn (e▸List.getElem_mem _)
   rcases Nat.lt_or_ge i (j-1)with hl|hg
   ·have:=hp i (j-1) (by omega) (by omega) hl;omega
   ·obtain rfl:i=j-1:=by omega
    omega
  have h2:∀b∈xs.drop j,n<b:=fun b hb=>by
   obtain⟨i,hi,rfl⟩:=List.getElem_of_mem hb;rw[List.length_drop]at hi;rw[List.getElem_drop];have:=hgt (j+i) (by omega) (by omega);rw[List.getD_eq_getElem?_getD,List.getElem?_eq_getElem (by omega),Option.getD_some]at this;exact this
  rw[List.pairwise_append,List.pairwise_append];refine⟨⟨h.sublist (List.take_sublist ..),List.pairwise_singleton ..,fun a ha b hb=>by rw[List.mem_singleton.1 hb];exact h1 a ha⟩,h.sublist (List.drop_sublist ..),fun a ha b hb=> ?_⟩;rcases List.mem_append.1 ha with ha|ha
  ·have:=h1 a ha;have:=h2 b hb;omega
  ·rw[List.mem_singleton.1 ha];exact h2 b hb
end Go.Proofs.YtlecajlnjmbilaaGreatDoor.Q
namespace Go.Proofs.YtlecajlnjmbilaaGreatDoor.Q
open Go.RowKit Go.Proofs.YtlecajlnjmbilaaGreatDoor.P Go.Proofs.ab.aq Go.Proofs.ab.aM Go.Proofs.ab.aT
theorem oJ:∀(xs U:List Int),xs.Nodup→(∀x∈xs,x∈U)→xs.length≤U.length
 |[],_,_,_=>Nat.zero_le _
 |x::xs,U,h,hs=>by
  obtain⟨h1,h2⟩:=List.nodup_cons.1 h;have hx:=hs x (List.mem_cons_self ..);have:=oJ xs (U.erase x) h2 (fun y hy=>(List.mem_erase_of_ne (fun(e:y=x)=>h1 (e▸hy))).2 (hs y (List.mem_cons_of_mem _ hy)));rw[List.length_erase_of_mem hx]at this;have:=List.length_pos_of_mem hx;simp only[List.length_cons]
  omega
theorem tb (xs U:List Int) (h:xs.Nodup) (hs:∀x∈xs,x∈U) (hl:U.length≤xs.length):∀y∈U,y∈xs:=fun y hy=>by
 apply Classical.byContradiction
 intro hn
 have:=oJ (y::xs) U (List.nodup_cons.2 ⟨hn,h⟩) (fun z hz=>by
  rcases List.mem_cons.1 hz with rfl|hz
  ·exact hy
  ·exact hs z hz)
 simp only[List.length_cons]at this
 omega
theorem rU {l:List Int}(h:l.Pairwise (·<·)):l.Nodup:=h.imp (fun h e=>by omega)
section
variable (ex:Int→Bool) (kids:Int→List Int)
def nD (out es:List Int):List Int:=es.foldl (fun o e=>if ex e=true then rT o e else o) out
def pf (xs:List Int):List Int:=nD ex xs (xs.flatMap kids)
def yy:Nat→List Int→List Int
 |0,xs=>xs
 |n+1,xs=>yy n (pf ex kids xs)
def vv (xs:List Int):Prop:=∀x∈xs,∀y∈kids x,ex y=true→y∈xs
theorem vw (es:List Int):∀(out:List Int) (x:Int),x∈nD ex out es↔x∈out∨(x∈es∧ex x=true):=by
 induction es with
 |nil=>intro out x;simp[nD]
 |cons e es ih=>
  intro out x
  show x∈nD ex (if ex e=true then rT out e else out) es↔_
  rw[ih]
  by_cases c:ex e=true
  ·rw[if_pos c,vu,List.mem_cons]
   constructor
   ·rintro((h|rfl)|⟨h,k⟩)
    ·exact .inl h
    ·exact .inr ⟨.inl rfl,c⟩
    ·exact .inr ⟨.inr h,k⟩
   ·rintro(h|⟨rfl|h,k⟩)
    ·exact .inl (.inl h)
    ·exact .inl (.inr rfl)
    ·exact .inr ⟨h,k⟩
  ·rw[if_neg c,List.mem_cons]
   constructor
   ·rintro(h|⟨h,k⟩)
    ·exact .inl h
    ·exact .inr ⟨.inr h,k⟩
   ·rintro(h|⟨rfl|h,k⟩)
    ·exact .inl h
    ·exact absurd k c
    ·exact .inr ⟨h,k⟩
theorem qY (es:List Int):∀(out:List Int),out.Pairwise (·<·)→(nD ex out es).Pairwise (·<·):=by
 induction es with
 |nil=>intro out h;exact h
 |cons e es ih=>
  intro out h
  show(nD ex (if ex e=true then rT out e else out) es).Pairwise (·<·)
  refine ih _ ?_
  split
  ·exact xr out e h
  ·exact h
theorem lN (xs:List Int) (y:Int):y∈pf ex kids xs↔y∈xs∨((∃x∈xs,y∈kids x)∧ex y=true):=by
 unfold pf;rw[vw,List.mem_flatMap]
theorem abC:∀n (xs:List Int),xs.Pairwise (·<·)→(yy ex kids n xs).Pairwise (·<·)
 |0,_,h=>h
 |n+1,xs,h=>abC n _ (qY ex _ _ h)
theorem xt:∀n (xs:List Int),∀x∈xs,x∈yy ex kids n xs
 |0,_,_,h=>h
 |n+1,xs,x,h=>xt n _ x ((lN ex kids xs x).2 (.inl h))
theorem abD (K:List Int) (hK:vv ex kids K):∀n (xs:List Int),(∀x∈xs,x∈K)→∀x∈yy ex kids n xs,x∈K
 |0,_,h=>h
 |n+1,xs,h=>abD K hK n _ (fun x hx=>by
  rcases(lN ex kids xs x).1 hx with hx|⟨⟨z,hz,hk⟩,he⟩
  ·exact h x hx
  ·exact hK z (h z hz) x hk he)
theorem xu (xs:List Int) (h:pf ex kids xs=xs):∀n,yy ex kids n xs=xs
 |0=>rfl
 |n+1=>by rw[yy,h];exact xu xs h n
theorem vx (U:List Int) (hU:∀y,ex y=true→y∈U):∀n (xs:List Int),xs.Pairwise (·<·)→(∀x∈xs,x∈U)→U.length≤xs.length+n→vv ex kids (yy ex kids n xs)
 |0,xs,h,hs,hl=>fun x _ y _ he=>tb xs U (rU h) hs hl y (hU y he)
 |n+1,xs,h,hs,hl=>by
  by_cases c:pf ex kids xs=xs
  ·rw[xu ex kids xs c];intro x hx y hy he;rw[←c];exact(lN ex kids xs y).2 (.inr ⟨⟨x,hx,hy⟩,he⟩)
  ·refine vx U hU n _ (qY ex _ _ h) (fun x hx=> ?_) ?_
   ·rcases(lN ex kids xs x).1 hx with hx|⟨_,he⟩
    ·exact hs x hx
    ·exact hU x he
   ·have:xs.length<(pf ex kids xs).length:=by
     apply Classical.byContradiction
     intro hn;refine c (wR _ _ (qY ex _ _ h) h (fun x=>⟨fun hx=> ?_,fun hx=>(lN ex kids xs x).2 (.inl hx)⟩));exact tb xs (pf ex kids xs) (rU h) (fun y hy=>(lN ex kids xs y).2 (.inl hy)) (by omega) x hx
    omega
theorem wS (U out:List Int) (hU:∀y,ex y=true→y∈U) (h1:ex 1=true) (hn:out.Nodup) (ho:vv ex kids out) (h1o:1∈out) (hmin:∀K:List Int,vv ex kids K→1∈K→∀x∈out,x∈K):
  nF out=yy ex kids U.length [1]:=by
 have hs:=vx ex kids U hU U.length [1] (List.pairwise_singleton ..) (fun x hx=>by rw[List.mem_singleton.1 hx];exact hU 1 h1) (by omega);refine wR _ _ (aby out hn) (abC ex kids _ _ (List.pairwise_singleton ..)) (fun x=> ?_);rw[yx];exact⟨hmin _ hs (xt ex kids _ _ 1 (List.mem_singleton.2 rfl)) x,abD ex kids out ho _ _ (fun y hy=>by rw[List.mem_singleton.1 hy];exact h1o) x⟩
end
end Go.Proofs.YtlecajlnjmbilaaGreatDoor.Q
namespace Go.Proofs.YtlecajlnjmbilaaGreatDoor.Q
open Go.RowKit Go.Proofs.YtlecajlnjmbilaaGreatDoor.P Go.Proofs.ab.aq Go.Proofs.ab.aM Go.Proofs.ab.aT
theorem rdI (xs:List Int) (i:Nat) (h:i<xs.length):rd xs (i:Int)=xs[i]:=by
 simp[rd,List.getD_eq_getElem?_getD,List.getElem?_eq_getElem h]
theorem abE (xs:List Int) (n:Int) (hl:xs.length≤9223372036854775807):Ev (fun k=>eL.f k xs n) (decide (n∈xs)):=by
 have key:=down (n:=xs.length) (P:=fun i=>Ev (fun k=>eL.l0 k xs n (i:Nat)) (decide (n∈xs.drop i))) (by
   apply aV
   simp only[eL.l0,List.drop_length]
   exact dw (by omega) (fm (Ev.now _) (by simp))) (fun i hi h=>by
   apply aV
   simp only[eL.l0,rdI xs i hi];rw[nt i xs.length hi hl,List.drop_eq_getElem_cons hi];refine bp (by omega) (bp (by omega) ?_)
   by_cases c:xs[i]=n
   ·exact bp c (fm (Ev.now _) (by simp[c]))
   ·exact dw c (fm h (decide_eq_decide.2 ⟨fun h=>List.mem_cons_of_mem _ h,fun h=>(List.mem_cons.1 h).resolve_left (fun e=>c e.symm)⟩)))
 simpa [eL.f]using key
theorem wT (xs:List Int) (n:Int) (hl:xs.length≤17592186044415):∀(j:Nat),j≤xs.length→∀c:Int,Ev (fun k=>dj.l0 k n (xs.take j++[c]++xs.drop j) (j:Nat)) (xs.take (um xs n j)++[n]++xs.drop (um xs n j)):=by
 have hset:∀(j:Nat) (c m:Int),j≤xs.length→(xs.take j++[c]++xs.drop j).set j m=xs.take j++[m]++xs.drop j:=fun j c m hj=>by
  have ht:(xs.take j).length=j:=by rw[List.length_take];omega
  rw[List.append_assoc,List.set_append_right _ _ (by omega),ht,Nat.sub_self,List.append_assoc];rfl
 have hlen:∀(j:Nat) (c:Int),j≤xs.length→(xs.take j++[c]++xs.drop j).length=xs.length+1:=fun j c hj=>by
  simp only[List.length_append,List.length_take,List.length_drop,List.length_singleton];omega
 intro j
 induction j with
 |zero=>
  intro hj c
  apply aV
  simp only[dj.l0,hlen 0 c hj,Int.toNat_natCast,hset 0 c n hj,um];exact dw (by omega) (bp (by omega) (bp (by omega) (Ev.now _)))
 |succ j ih=>
  intro hj c
  have hw:wrap64 (((j+1:Nat):Int)-1)=(j:Nat):=by rw[show((j+1:Nat):Int)-1=(j:Nat) by omega];exact lf (by omega) (by omega)
  have hr:rd (xs.take (j+1)++[c]++xs.drop (j+1)) (j:Nat)=xs[j]:=by
   rw[rdI _ j (by rw[hlen _ _ hj];omega)];rw[List.getElem_append_left (by simp only[List.length_append,List.length_take,List.length_singleton];omega),List.getElem_append_left (by rw[List.length_take];omega),List.getElem_take]
  apply aV
  simp only[dj.l0,hw,hr,hlen _ c hj,Int.toNat_natCast,hset (j+1) c _ hj];refine bp (by omega) (bp (by omega) (bp (by omega) ?_))
  have hg:xs.getD j 0=xs[j]:=by rw[List.getD_eq_getElem?_getD,List.getElem?_eq_getElem (by omega)];rfl
  by_cases cc:xs[j]>n
  ·refine bp cc (bp (by omega) (bp (by omega) ?_))
   have e:xs.take (j+1)++[xs[j]]++xs.drop (j+1)=xs.take j++[xs[j]]++xs.drop j:=by
    rw[List.take_succ_eq_append_getElem (by omega),List.append_assoc,List.append_assoc,List.append_assoc,List.drop_eq_getElem_cons (i:=j) (by omega)];rfl
   rw[e,um,if_pos (by rw[hg];exact cc)];exact ih (by omega) _
  ·refine dw cc (bp (by omega) (bp (by omega) (fm (Ev.now _) ?_)));rw[um,if_neg (by rw[hg];exact cc)]
theorem abF (xs:List Int) (n:Int) (hl:xs.length≤17592186044414):Ev (fun k=>dj.f k xs n) (rT xs n):=by
 unfold dj.f;refine Ev.bind (abE xs n (by omega)) ?_
 by_cases c:n∈xs
 ·refine bp (by simp[c]) (fm (Ev.now _) ?_);unfold rT;rw[if_pos c]
 ·refine dw (by simp[c]) ?_;simp only[Option.bind_some,List.nil_append,List.length_nil];refine bp (by omega) (bp (by omega) ?_);have h:=wT xs n (by omega) xs.length (Nat.le_refl _) n;rw[List.take_length,List.drop_length,List.append_nil]at h
  have hw:wrap64 (((xs++[n]).length:Int)-1)=(xs.length:Nat):=by
   rw[List.length_append,List.length_singleton,show((xs.length+1:Nat):Int)-1=(xs.length:Nat) by omega];exact lf (by omega) (by omega)
  rw[hw];refine fm h ?_;unfold rT;rw[if_neg c]
end Go.Proofs.YtlecajlnjmbilaaGreatDoor.Q
namespace Go.Proofs.YtlecajlnjmbilaaGreatDoor.Q
open Go.RowKit Go.Proofs.YtlecajlnjmbilaaGreatDoor.P Go.Proofs.ab.aq Go.Proofs.ab.aM Go.Proofs.ab.aT
def iE (l:List bm) (n:Int):List Int:=if eO l n=true∧(fo l n).f1=2 then(fo l n).f4.map (·.f1)else []
theorem wU (l:List bm) (n:Int) (h:eO l n=true):n∈l.map (·.f0):=by
 apply Classical.byContradiction
 intro hn;have:=uP n l 0 (fun x hx e=>hn (List.mem_map.2 ⟨x,hx,e⟩));unfold eO at h;rw[this]at h;simp at h
structure pY (l:List bm) (xs:List Int):Prop where
 lt:xs.Pairwise (·<·)
 ex:∀x∈xs,eO l x=true
theorem pY.len {l:List bm}{xs:List Int}(h:pY l xs):xs.length≤l.length:=by
 have:=oJ xs (l.map (·.f0)) (rU h.lt) (fun x hx=>wU l x (h.ex x hx))
 rwa [List.length_map]at this
theorem pY.put {l:List bm}{xs:List Int}(h:pY l xs) (n:Int) (hn:eO l n=true):pY l (rT xs n):=
 ⟨xr xs n h.lt,fun x hx=>by rcases(vu xs n x).1 hx with hx|rfl;exact h.ex x hx;exact hn⟩
theorem yz (l:List bm) (nx:Int) (xs:List Int) (i:Int) (x:bm) (R:List Int) (hl:l.length≤1048576) (he:x.f4.length≤1048576) (hk:x.f1=2)
  (fin:List Int) (hfin:Ev (fun k=>az.l0 k xs fin (wrap64 (i+1)) l nx) R):
  ∀(m:Nat),m≤x.f4.length→∀out,pY l out→nD (eO l) out ((x.f4.drop (x.f4.length-m)).map (·.f1))=fin→Ev (fun k=>az.l1 k xs out i true ((x.f4.length-m:Nat):Int) l nx x.f0 x.f1 x.f2 x.f3 x.f4 x.f5) R:=by
 intro m
 induction m with
 |zero=>
  intro _ out ho hf;rw[Nat.sub_zero,List.drop_length]at hf;have hf':out=fin:=hf;subst hf'
  apply aV
  simp only[az.l1,Nat.sub_zero];refine dw (by omega) ?_
  apply aV
  simp only[az.j2];exact dw (by decide) hfin
 |succ m ih=>
  intro hm out ho hf
  have hj:x.f4.length-(m+1)<x.f4.length:=by omega
  have hrd:al x.f4 ((x.f4.length-(m+1):Nat):Int)=x.f4[x.f4.length-(m+1)]:=getD_at x.f4 _ _ hj;rw[List.drop_eq_getElem_cons hj,show x.f4.length-(m+1)+1=x.f4.length-m by omega]at hf
  apply aV
  simp only[az.l1];refine bp (by omega) (bp trivial ?_)
  apply aV
  simp only[az.j2,hrd];rw[nt _ x.f4.length hj (by omega),show x.f4.length-(m+1)+1=x.f4.length-m by omega];refine bp (by simp[hk]) (bp (by omega) (bp (by omega) (Ev.bind (oI l nx _ hl) ?_)))
  by_cases c:0≤cy x.f4[x.f4.length-(m+1)].f1 l 0
  ·have hx:eO l x.f4[x.f4.length-(m+1)].f1=true:=decide_eq_true c;have hlen:=ho.len;refine bp c (Ev.bind (abF out _ (by omega)) (ih (by omega) _ (ho.put _ hx) ?_));rw[←hf];simp only[nD,List.map_cons,List.foldl_cons,if_pos hx]
  ·have hx:¬eO l x.f4[x.f4.length-(m+1)].f1=true:=by unfold eO;simpa using c
   refine dw c (ih (by omega) _ ho ?_);rw[←hf];simp only[nD,List.map_cons,List.foldl_cons,if_neg hx]
theorem yA (l:List bm) (nx:Int) (xs:List Int) (i:Int) (x:bm) (ok:Bool) (R out:List Int) (hno:¬(ok=true∧x.f1=2)) (hfin:Ev (fun k=>az.l0 k xs out (wrap64 (i+1)) l nx) R):
  Ev (fun k=>az.l1 k xs out i ok 0 l nx x.f0 x.f1 x.f2 x.f3 x.f4 x.f5) R:=by
 apply aV
 simp only[az.l1];refine tM (fun _=>tM (fun hk=> ?_) (fun _=> ?_)) (fun _=> ?_)
 ·apply aV
  simp only[az.j2];exact dw (by have:x.f1≠2:=fun e=>hno ⟨hk,e⟩;simpa using this) hfin
 ·apply aV
  simp only[az.j2];exact dw (by decide) hfin
 ·apply aV
  simp only[az.j2];exact dw (by decide) hfin
theorem vy (ex:Int→Bool) (out a b:List Int):nD ex out (a++b)=nD ex (nD ex out a) b:=List.foldl_append
theorem pY.add {l:List bm}{out:List Int}(h:pY l out) (es:List Int):pY l (nD (eO l) out es):=
 ⟨qY _ _ _ h.lt,fun x hx=>by rcases(vw (eO l) es out x).1 hx with hx|⟨_,hx⟩;exact h.ex x hx;exact hx⟩
theorem yB (l:List bm) (nx:Int) (xs:List Int) (hl:l.length≤1048576) (hs:∀x∈l,hJ x) (hx:pY l xs):Ev (fun k=>az.f k l nx xs) (pf (eO l) (iE l) xs):=by
 have hlen:=hx.len
 have key:=down (n:=xs.length) (P:=fun i=>Ev (fun k=>az.l0 k xs (nD (eO l) xs ((xs.take i).flatMap (iE l))) (i:Nat) l nx) (pf (eO l) (iE l) xs)) (by
   apply aV
   simp only[az.l0,List.take_length]
   exact dw (by omega) (Ev.now _)) (fun i hi h=>by
   have hrd:=rdI xs i hi
   have hst:nD (eO l) xs ((xs.take (i+1)).flatMap (iE l))=nD (eO l) (nD (eO l) xs ((xs.take i).flatMap (iE l))) (iE l xs[i]):=by
    rw[List.take_succ_eq_append_getElem hi,List.flatMap_append,vy];simp
   rw[hst]at h;have ho:=hx.add ((xs.take i).flatMap (iE l));generalize nD (eO l) xs ((xs.take i).flatMap (iE l))=out at h ho⊢
   apply aV
   simp only[az.l0,hrd];refine bp (by omega) (bp (by omega) (Ev.bind (pW l nx xs[i] hl hs) ?_));have hsm:=iW l xs[i] hs;rw[←nt i xs.length hi (by omega)]at h;dsimp only
   by_cases c:eO l xs[i]=true∧(fo l xs[i]).f1=2
   ·have hk:iE l xs[i]=(fo l xs[i]).f4.map (·.f1):=if_pos c;rw[hk]at h;have:=yz l nx xs i (fo l xs[i]) _ hl hsm.e c.2 _ h _ (Nat.le_refl _) out ho (by rw[Nat.sub_self,List.drop_zero]);rw[Nat.sub_self]at this;rw[c.1];exact this
   ·have hk:iE l xs[i]=[]:=if_neg c;rw[hk]at h
    exact yA l nx xs i (fo l xs[i]) _ _ out c h)
 simpa [az.f,nD]using key
theorem pY.next {l:List bm}{xs:List Int}(h:pY l xs):pY l (pf (eO l) (iE l) xs):=h.add _
theorem ug (l:List bm) (nx:Int) (hl:l.length≤1048576) (hs:∀x∈l,hJ x):Ev (fun k=>ed.f k l nx) (if eO l 1=true then yy (eO l) (iE l) l.length [1]else []):=by
 unfold ed.f;simp only[Option.bind_some];refine Ev.bind (oI l nx 1 hl) ?_
 by_cases c:cy 1 l 0<0
 ·have:¬eO l 1=true:=by unfold eO;simp;omega
  exact bp c (fm (Ev.now _) (by rw[if_neg this]))
 ·have h1:eO l 1=true:=decide_eq_true (by omega);rw[if_pos h1];refine dw c (bp (by simp) ?_)
  have key:∀(m:Nat),m≤l.length→∀xs,pY l xs→Ev (fun k=>ed.l0 k xs ((l.length-m:Nat):Int) l nx) (yy (eO l) (iE l) m xs):=by
   intro m
   induction m with
   |zero=>
    intro _ xs _
    apply aV
    simp only[ed.l0];exact dw (by omega) (Ev.now _)
   |succ m ih=>
    intro hm xs hx
    apply aV
    simp only[ed.l0];refine bp (by omega) (Ev.bind (yB l nx xs hl hs hx) ?_);rw[nt _ l.length (by omega) (by omega),show l.length-(m+1)+1=l.length-m by omega];exact ih (by omega) _ hx.next
  have:=key l.length (Nat.le_refl _) [1] ⟨List.pairwise_singleton ..,fun x hx=>by rw[List.mem_singleton.1 hx];exact h1⟩;rw[Nat.sub_self]at this;exact this
end Go.Proofs.YtlecajlnjmbilaaGreatDoor.Q
namespace Go.Proofs.YtlecajlnjmbilaaGreatDoor.Q
open Go.RowKit Go.Proofs.YtlecajlnjmbilaaGreatDoor.P Go.Proofs.ab.aq Go.Proofs.ab.aM Go.Proofs.ab.aT
theorem vz (l:List bm) (nx:Int) (out:List Int) (e:List ey) (R:List Int) (he:e.length≤1048576):
  ∀(m:Nat),m≤e.length→∀q,q.length+m<17592186044416→Ev (fun k=>aU.l0 k out (q++(e.drop (e.length-m)).map (·.f1)) l nx) R→Ev (fun k=>aU.l1 k out q e (e.length:Int) ((e.length-m:Nat):Int) l nx) R:=by
 intro m
 induction m with
 |zero=>
  intro _ q _ h;rw[Nat.sub_zero,List.drop_length,List.map_nil,List.append_nil]at h
  apply aV
  simp only[aU.l1,Nat.sub_zero];exact dw (by omega) h
 |succ m ih=>
  intro hm q hq h
  have hj:e.length-(m+1)<e.length:=by omega
  have hrd:al e ((e.length-(m+1):Nat):Int)=e[e.length-(m+1)]:=getD_at e _ _ hj;rw[List.drop_eq_getElem_cons hj,show e.length-(m+1)+1=e.length-m by omega,List.map_cons]at h
  apply aV
  simp only[aU.l1,hrd];rw[nt _ e.length hj (by omega),show e.length-(m+1)+1=e.length-m by omega];refine bp (by omega) (bp (by omega) (bp (by omega) (bp (by omega) (ih (by omega) _ (by simp only[List.length_append,List.length_singleton];omega) ?_))));rw[List.append_assoc];exact h
structure rV (l:List bm) (out q:List Int):Prop where
 nd:out.Nodup
 ex:∀x∈out,eO l x=true
 sh:∀x∈out,∀y∈iE l x,eO l y=true→y∈out∨y∈q
 one:eO l 1=true→1∈out∨1∈q
 mi:∀K:List Int,vv (eO l) (iE l) K→(eO l 1=true→1∈K)→(∀x∈out,x∈K)∧∀y∈q,eO l y=true→y∈K
 ln:q.length≤1+out.length*1048576
theorem rV.len {l:List bm}{out q:List Int}(h:rV l out q):out.length≤l.length:=by
 have:=oJ out (l.map (·.f0)) h.nd (fun x hx=>wU l x (h.ex x hx))
 rwa [List.length_map]at this
theorem yC (l:List bm) (n:Int) (hs:∀x∈l,hJ x):(iE l n).length≤1048576:=by
 have h:=(iW l n hs).e;unfold iE
 split
 ·rwa [List.length_map]
 ·simp
theorem rV.old {l:List bm}{out q:List Int}{n:Int}(h:rV l out (n::q)) (ho:¬(eO l n=true∧n∉out)):rV l out q:=by
 have hn:eO l n=true→n∈out:=fun e=>Classical.byContradiction fun c=>ho ⟨e,c⟩
 refine⟨h.nd,h.ex,fun x hx y hy he=> ?_,fun e=> ?_,fun K hK h1=>⟨(h.mi K hK h1).1,fun y hy=>(h.mi K hK h1).2 y (List.mem_cons_of_mem _ hy)⟩,by have:=h.ln;simp only[List.length_cons]at this;omega⟩
 ·rcases h.sh x hx y hy he with a|a
  ·exact .inl a
  ·rcases List.mem_cons.1 a with rfl|a
   ·exact .inl (hn he)
   ·exact .inr a
 ·rcases h.one e with a|a
  ·exact .inl a
  ·rcases List.mem_cons.1 a with a|a
   ·exact .inl (a▸hn (a▸e))
   ·exact .inr a
theorem rV.new {l:List bm}{out q:List Int}{n:Int}(hs:∀x∈l,hJ x) (h:rV l out (n::q)) (he:eO l n=true) (hn:n∉out):rV l (out++[n]) (q++iE l n):=by
 have hk:=yC l n hs;refine⟨?_,fun x hx=> ?_,fun x hx y hy hey=> ?_,fun e=> ?_,fun K hK h1=>⟨fun x hx=> ?_,fun y hy hey=> ?_⟩,?_⟩
 ·rw[List.nodup_append];exact⟨h.nd,by simp,fun a ha b hb=>by rw[List.mem_singleton.1 hb];exact fun e=>hn (e▸ha)⟩
 ·rcases List.mem_append.1 hx with hx|hx
  ·exact h.ex x hx
  ·rw[List.mem_singleton.1 hx];exact he
 ·rcases List.mem_append.1 hx with hx|hx
  ·rcases h.sh x hx y hy hey with a|a
   ·exact .inl (List.mem_append.2 (.inl a))
   ·rcases List.mem_cons.1 a with rfl|a
    ·exact .inl (List.mem_append.2 (.inr (List.mem_singleton.2 rfl)))
    ·exact .inr (List.mem_append.2 (.inl a))
  ·rw[List.mem_singleton.1 hx]at hy;exact .inr (List.mem_append.2 (.inr hy))
 ·rcases h.one e with a|a
  ·exact .inl (List.mem_append.2 (.inl a))
  ·rcases List.mem_cons.1 a with a|a
   ·exact .inl (List.mem_append.2 (.inr (List.mem_singleton.2 a)))
   ·exact .inr (List.mem_append.2 (.inl a))
 ·rcases List.mem_append.1 hx with hx|hx
  ·exact(h.mi K hK h1).1 x hx
  ·rw[List.mem_singleton.1 hx];exact(h.mi K hK h1).2 n (List.mem_cons_self ..) he
 ·rcases List.mem_append.1 hy with hy|hy
  ·exact(h.mi K hK h1).2 y (List.mem_cons_of_mem _ hy) hey
  ·exact hK n ((h.mi K hK h1).2 n (List.mem_cons_self ..) he) y hy hey
 ·have:=h.ln;simp only[List.length_append,List.length_cons,List.length_singleton,List.length_nil]at this⊢
  omega
theorem my (l:List bm) (nx:Int) (hl:l.length≤1048576) (hs:∀x∈l,hJ x) (out q:List Int) (n:Int) (R:List Int) (hi:rV l out (n::q))
  (hold:¬(eO l n=true∧n∉out)→Ev (fun k=>aU.l0 k out q l nx) R) (hnew:eO l n=true→n∉out→Ev (fun k=>aU.l0 k (out++[n]) (q++iE l n) l nx) R):Ev (fun k=>aU.l0 k out (n::q) l nx) R:=by
 have hlen:=hi.len;have hln:=hi.ln;simp only[List.length_cons]at hln;have hrd:rd (n::q) 0=n:=rfl;have hdr:(n::q).drop (1:Int).toNat=q:=rfl;have hsm:=iW l n hs
 apply aV
 simp only[aU.l0,hrd,hdr,Option.bind_some];refine bp (by simp only[List.length_cons];omega) (bp (by simp only[List.length_cons];omega) (bp (by simp only[List.length_cons];omega) (Ev.bind (nC l nx n hl hs) ?_)));dsimp only
 by_cases c:eO l n=true
 ·have hc:ee.f out n=some (out.contains n):=by unfold ee.f;rw[if_pos (by omega)]
  refine bp c ?_;simp only[hc,Option.bind_some]
  by_cases cc:n∈out
  ·have:out.contains n=true:=by simpa using cc
   rw[this]
   apply aV
   simp only[aU.j1];exact bp trivial (hold (fun h=>h.2 cc))
  ·have:out.contains n=false:=by simpa using cc
   rw[this];have h:=hnew c cc
   apply aV
   simp only[aU.j1,Option.bind_some];refine dw (by decide) (bp (by omega) ?_)
   by_cases hk:(fo l n).f1=2
   ·have e:iE l n=(fo l n).f4.map (·.f1):=if_pos ⟨c,hk⟩;rw[e]at h;refine bp hk ?_;have hln2:out.length*1048576≤1048576*1048576:=Nat.mul_le_mul_right _ (by omega);have he:=hsm.e;have:=vz l nx (out++[n]) (fo l n).f4 R hsm.e _ (Nat.le_refl _) q (by omega) (by rw[Nat.sub_self,List.drop_zero];exact h);rw[Nat.sub_self]at this;exact this
   ·have e:iE l n=[]:=if_neg (fun h=>hk h.2);rw[e,List.append_nil]at h;exact dw hk h
 ·refine dw c ?_
  apply aV
  simp only[aU.j1];exact bp trivial (hold (fun h=>c h.1))
theorem sA (l:List bm) (nx:Int) (hl:l.length≤1048576) (hs:∀x∈l,hJ x):∀(d:Nat) (q out:List Int),l.length-out.length≤d→rV l out q→∃o,Ev (fun k=>aU.l0 k out q l nx) (nF o)∧rV l o []:=by
 intro d
 induction d with
 |zero=>
  intro q
  induction q with
  |nil=>
   intro out _ h;refine⟨out,?_,h⟩;have:=h.len
   apply aV
   simp only[aU.l0];exact dw (by simp) (bp (by omega) (Ev.now _))
  |cons n q ihq=>
   intro out hd h
   by_cases c:eO l n=true∧n∉out
   ·have:=(h.new hs c.1 c.2).len;simp only[List.length_append,List.length_singleton]at this
    omega
   ·obtain⟨o,ho,hi⟩:=ihq out hd (h.old c);exact⟨o,my l nx hl hs out q n _ h (fun _=>ho) (fun a b=>absurd ⟨a,b⟩ c),hi⟩
 |succ d ih=>
  intro q
  induction q with
  |nil=>
   intro out _ h;refine⟨out,?_,h⟩;have:=h.len
   apply aV
   simp only[aU.l0];exact dw (by simp) (bp (by omega) (Ev.now _))
  |cons n q ihq=>
   intro out hd h
   by_cases c:eO l n=true∧n∉out
   ·obtain⟨o,ho,hi⟩:=ih (q++iE l n) (out++[n]) (by simp only[List.length_append,List.length_singleton];omega) (h.new hs c.1 c.2);exact⟨o,my l nx hl hs out q n _ h (fun a=>absurd c a) (fun _ _=>ho),hi⟩
   ·obtain⟨o,ho,hi⟩:=ihq out hd (h.old c);exact⟨o,my l nx hl hs out q n _ h (fun _=>ho) (fun a b=>absurd ⟨a,b⟩ c),hi⟩
theorem uh (l:List bm) (nx:Int) (hl:l.length≤1048576) (hs:∀x∈l,hJ x):Ev (fun k=>aU.f k l nx) (if eO l 1=true then yy (eO l) (iE l) l.length [1]else []):=by
 obtain⟨o,ho,hi⟩:=sA l nx hl hs l.length [1] [] (by omega) ⟨List.nodup_nil,(fun x hx=>by cases hx),(fun x hx=>by cases hx),(fun _=> .inr (List.mem_singleton.2 rfl)),(fun K hK h1=>⟨(fun x hx=>by cases hx),(fun y hy he=>by rw[List.mem_singleton.1 hy]at he⊢;exact h1 he)⟩),by simp⟩;unfold aU.f;refine fm ho ?_
 by_cases c:eO l 1=true
 ·rw[if_pos c];have h1o:1∈o:=(hi.one c).resolve_right (by simp);have:=wS (eO l) (iE l) (l.map (·.f0)) o (fun y hy=>wU l y hy) c hi.nd (fun x hx y hy he=>(hi.sh x hx y hy he).resolve_right (by simp)) h1o (fun K hK h1=>(hi.mi K hK (fun _=>h1)).1);rw[List.length_map]at this;exact this
 ·rw[if_neg c];have:o=[]:=List.eq_nil_iff_forall_not_mem.2 (fun x hx=>by have:=(hi.mi [] (fun x hx=>by cases hx) (fun e=>absurd e c)).1 x hx;cases this);rw[this];exact List.eq_nil_of_length_eq_zero (by rw[lI];rfl)
end Go.Proofs.YtlecajlnjmbilaaGreatDoor.Q
namespace Go.Proofs.YtlecajlnjmbilaaGreatDoor.Q
open Go.RowKit Go.Proofs.YtlecajlnjmbilaaGreatDoor.P Go.Proofs.ab.aq Go.Proofs.ab.aM Go.Proofs.ab.aT
theorem rW (n:Int) (l:List bm) (h:∀x∈l,x.f4.length≤1048576):eJ n l≤l.length*1048576:=by
 induction l with
 |nil=>simp[eJ]
 |cons x m ih=>
  have e:gw n x≤1048576:=by
   have:=h x (List.mem_cons_self ..);unfold gw
   split
   ·have:=List.length_filter_le (fun y:ey=>decide (y.f1=n)) x.f4;unfold fA;omega
   ·omega
  have:=ih (fun y hy=>h y (List.mem_cons_of_mem _ hy));simp only[eJ,List.map_cons,List.sum_cons,List.length_cons]at this⊢
  omega
def mz (l:List bm) (e:List ey):Bool:=e.all fun x=>eO l x.f1
def qD (l xs:List bm):Bool:=xs.all fun x=>decide (x.f2=(eJ x.f0 l:Int))&&mz l x.f4
def px (l:List bm):List Int:=if eO l 1=true then yy (eO l) (iE l) l.length [1]else []
def lY (l:List bm) (nx:Int):Bool:=pd l nx&&(decide ((px l).length=l.length)&&qD l l)
theorem rX (l:List bm) (i:Nat) (hi:i<l.length):qD l (l.drop i)=(decide (l[i].f2=(eJ l[i].f0 l:Int))&&mz l l[i].f4&&qD l (l.drop (i+1))):=by
 unfold qD;rw[List.drop_eq_getElem_cons hi,List.all_cons]
theorem qE (l:List bm) (e:List ey) (j:Nat) (hj:j<e.length):mz l (e.drop j)=(eO l e[j].f1&&mz l (e.drop (j+1))):=by
 unfold mz;rw[List.drop_eq_getElem_cons hj,List.all_cons]
theorem rY (l:List bm) (nx i:Int) (x:bm) (Z:Bool) (hl:l.length≤1048576) (he:x.f4.length≤1048576) (hfin:Ev (fun k=>aE.l0 k (wrap64 (i+1)) l nx) Z):
  Ev (fun k=>aE.l1 k i 0 l nx x.f0 x.f1 x.f2 x.f3 x.f4 x.f5) (mz l x.f4&&Z):=by
 have key:=down (n:=x.f4.length) (P:=fun j=>Ev (fun k=>aE.l1 k i (j:Nat) l nx x.f0 x.f1 x.f2 x.f3 x.f4 x.f5) (mz l (x.f4.drop j)&&Z)) (by
   apply aV
   simp only[aE.l1,List.drop_length]
   exact dw (by omega) hfin) (fun j hj h=>by
   have hrd:al x.f4 (j:Int)=x.f4[j]:=getD_at x.f4 _ j hj
   apply aV
   simp only[aE.l1,hrd];rw[nt j x.f4.length hj (by omega),qE l x.f4 j hj];refine bp (by omega) (bp (by omega) (Ev.bind (oI l nx _ hl) ?_))
   by_cases c:cy x.f4[j].f1 l 0<0
   ·refine bp c (fm (Ev.now _) ?_);unfold eO;rw[decide_eq_false (by omega)];rfl
   ·refine dw c (fm h ?_)
    unfold eO;rw[decide_eq_true (by omega)];rfl)
 simpa using key
theorem rZ (l:List bm) (nx:Int) (hl:l.length≤1048576) (hs:∀x∈l,x.f4.length≤1048576):Ev (fun k=>aE.l0 k 0 l nx) (qD l l):=by
 have key:=down (n:=l.length) (P:=fun i=>Ev (fun k=>aE.l0 k (i:Nat) l nx) (qD l (l.drop i))) (by
   apply aV
   simp only[aE.l0,List.drop_length]
   exact dw (by omega) (Ev.now _)) (fun i hi h=>by
   have hrd:af l (i:Int)=l[i]:=getD_at l _ i hi;have hx:=hs _ (List.getElem_mem hi);have hu:=rW l[i].f0 l hs;have hu2:l.length*1048576≤1048576*1048576:=Nat.mul_le_mul_right _ hl;rw[←nt i l.length hi (by omega)]at h
   apply aV
   simp only[aE.l0,hrd];rw[rX l i hi];refine bp (by omega) (bp (by omega) (Ev.bind (wJ l nx _ hl hs (by omega)) ?_))
   by_cases c:((eJ l[i].f0 l:Nat):Int)=l[i].f2
   ·refine bp c (fm (rY l nx i l[i] _ hl hx h) ?_);rw[decide_eq_true c.symm,Bool.true_and]
   ·refine dw c (fm (Ev.now _) ?_)
    rw[decide_eq_false (fun e=>c e.symm)];rfl)
 simpa using key
theorem vA (l:List bm) (nx:Int) (hl:l.length≤1048576) (hs:∀x∈l,pT x):Ev (fun k=>aE.f k l nx) (lY l nx):=by
 have hA:∀x∈l,hJ x:=fun x hx=>⟨(hs x hx).d,(hs x hx).e,(hs x hx).t⟩
 unfold aE.f lY;refine Ev.bind (wH l nx hl hs) ?_
 by_cases c1:pd l nx=true
 ·refine bp c1 (Ev.bind (ug l nx hl hA) ?_);rw[c1,Bool.true_and]
  change Ev (fun k=>aE.j0 k (((px l).length:Int) !=(l.length:Int)) l nx) _
  apply aV
  simp only[aE.j0]
  by_cases c2:(px l).length=l.length
  ·refine dw (by simp[c2]) (fm (rZ l nx hl (fun x hx=>(hs x hx).e)) ?_);rw[decide_eq_true c2,Bool.true_and]
  ·refine bp (by simp;omega) (fm (Ev.now _) ?_);rw[decide_eq_false c2];rfl
 ·refine dw c1 ?_
  apply aV
  simp only[aE.j0];refine bp trivial (fm (Ev.now _) ?_);rw[show pd l nx=false by simpa using c1];rfl
theorem r_ (l:List bm) (nx i:Int) (e:List ey) (Z:Bool) (hl:l.length≤1048576) (he:e.length≤1048576) (hfin:Ev (fun k=>bh.l0 k l (l.length:Int) (wrap64 (i+1)) l nx) Z):
  Ev (fun k=>bh.l1 k l (l.length:Int) i e (e.length:Int) 0 l nx) (mz l e&&Z):=by
 have key:=down (n:=e.length) (P:=fun j=>Ev (fun k=>bh.l1 k l (l.length:Int) i e (e.length:Int) (j:Nat) l nx) (mz l (e.drop j)&&Z)) (by
   apply aV
   simp only[bh.l1,List.drop_length]
   exact dw (by omega) hfin) (fun j hj h=>by
   have hrd:al e (j:Int)=e[j]:=getD_at e _ j hj
   apply aV
   simp only[bh.l1,hrd];rw[nt j e.length hj (by omega),qE l e j hj]
   have hp:Ev (fun k=>eA.f k l nx e[j].f1) (cy e[j].f1 l 0):=by unfold eA.f;exact bp (by omega) (Ev.now _)
   refine bp (by omega) (bp (by omega) (bp (by omega) (Ev.bind hp ?_)))
   by_cases c:cy e[j].f1 l 0<0
   ·refine bp c (fm (Ev.now _) ?_);unfold eO;rw[decide_eq_false (by omega)];rfl
   ·refine dw c (fm h ?_)
    unfold eO;rw[decide_eq_true (by omega)];rfl)
 simpa using key
theorem sa (l:List bm) (nx:Int) (hl:l.length≤1048576) (hs:∀x∈l,x.f4.length≤1048576):Ev (fun k=>bh.l0 k l (l.length:Int) 0 l nx) (qD l l):=by
 have key:=down (n:=l.length) (P:=fun i=>Ev (fun k=>bh.l0 k l (l.length:Int) (i:Nat) l nx) (qD l (l.drop i))) (by
   apply aV
   simp only[bh.l0,List.drop_length]
   exact dw (by omega) (Ev.now _)) (fun i hi h=>by
   have hrd:af l (i:Int)=l[i]:=getD_at l _ i hi;have hx:=hs _ (List.getElem_mem hi);have hu:=rW l[i].f0 l hs;have hu2:l.length*1048576≤1048576*1048576:=Nat.mul_le_mul_right _ hl;rw[←nt i l.length hi (by omega)]at h
   apply aV
   simp only[bh.l0,hrd];rw[rX l i hi];refine bp (by omega) (bp (by omega) (bp (by omega) (Ev.bind (wK l nx _ hl hs (by omega)) ?_)))
   by_cases c:l[i].f2=((eJ l[i].f0 l:Nat):Int)
   ·refine bp c (fm (r_ l nx i l[i].f4 _ hl hx h) ?_);rw[decide_eq_true c,Bool.true_and]
   ·refine dw c (fm (Ev.now _) ?_)
    rw[decide_eq_false c];rfl)
 simpa using key
theorem vB (l:List bm) (nx:Int) (hl:l.length≤1048576) (hs:∀x∈l,pT x):Ev (fun k=>bh.f k l nx) (lY l nx):=by
 have hA:∀x∈l,hJ x:=fun x hx=>⟨(hs x hx).d,(hs x hx).e,(hs x hx).t⟩
 unfold bh.f lY;refine Ev.bind (wI l nx hl hs) ?_
 by_cases c1:pd l nx=true
 ·refine bp c1 (Ev.bind (uh l nx hl hA) ?_);rw[c1,Bool.true_and]
  change Ev (fun k=>bh.j0 k (((px l).length:Int) !=(l.length:Int)) l nx) _
  apply aV
  simp only[bh.j0]
  by_cases c2:(px l).length=l.length
  ·refine dw (by simp[c2]) (fm (sa l nx hl (fun x hx=>(hs x hx).e)) ?_);rw[decide_eq_true c2,Bool.true_and]
  ·refine bp (by simp;omega) (fm (Ev.now _) ?_);rw[decide_eq_false c2];rfl
 ·refine dw c1 ?_
  apply aV
  simp only[bh.j0];refine bp trivial (fm (Ev.now _) ?_);rw[show pd l nx=false by simpa using c1];rfl
end Go.Proofs.YtlecajlnjmbilaaGreatDoor.Q
namespace Go.Proofs.YtlecajlnjmbilaaGreatDoor.Q
open Go.RowKit Go.Proofs.YtlecajlnjmbilaaGreatDoor.P Go.Proofs.ab.aq Go.Proofs.ab.aM Go.Proofs.ab.aT
theorem pg (l:List bm) (nx:Int) (hl:l.length≤1048576) (hs:∀x∈l,hJ x):Ev (fun k=>ck.f k l nx) (l,nx):=by
 have key:=down (n:=l.length) (P:=fun i=>Ev (fun k=>ck.l0 k l (l.length:Int) (i:Nat) (l.take i) nx) (l,nx)) (by
   apply aV
   simp only[ck.l0,List.take_length]
   exact dw (by omega) (Ev.now _)) (fun i hi h=>by
   have hrd:af l (i:Int)=l[i]:=getD_at l _ i hi
   apply aV
   simp only[ck.l0,hrd,rO l[i] (hs _ (List.getElem_mem hi)),Option.bind_some];rw[nt i l.length hi (by omega)];refine bp (by omega) (bp (by omega) (bp (by omega) (bp (by rw[List.length_take];omega) ?_)));rw[List.take_succ_eq_append_getElem hi]at h
   exact h)
 simpa [ck.f]using key
end Go.Proofs.YtlecajlnjmbilaaGreatDoor.Q
namespace Go.Proofs.YtlecajlnjmbilaaGreatDoor.Q
open Go.RowKit Go.Proofs.YtlecajlnjmbilaaGreatDoor.P Go.Proofs.ab.aq Go.Proofs.ab.aM Go.Proofs.ab.aT
theorem lh (l:List bm) (nx:Int) (hl:l.length≤1048576) (hs:∀x∈l,hJ x):Ev (fun k=>cl.f k l nx) (l,nx):=by
 have key:=down (n:=l.length) (P:=fun i=>Ev (fun k=>cl.l0 k (i:Nat) l nx (l.take i) nx) (l,nx)) (by
   apply aV
   simp only[cl.l0,List.take_length]
   exact dw (by omega) (Ev.now _)) (fun i hi h=>by
   have hrd:af l (i:Int)=l[i]:=getD_at l _ i hi
   apply aV
   simp only[cl.l0,hrd,pV l[i] (hs _ (List.getElem_mem hi)),Option.bind_some];rw[nt i l.length hi (by omega)];refine bp (by omega) (bp (by omega) (bp (by rw[List.length_take];omega) ?_));rw[List.take_succ_eq_append_getElem hi]at h
   exact h)
 simpa [cl.f]using key
def lr (ino:Int):List bm→Nat
 |[]=>0
 |y::l=>if y.f0<ino then lr ino l+1 else 0
theorem wV (ino:Int) (l:List bm):∀j:Nat,cy ino l j<0→∀y∈l,y.f0≠ino:=by
 induction l with
 |nil=>intro j _ y hy;cases hy
 |cons x l ih=>
  intro j h y hy;rw[cy]at h
  split at h
  ·omega
  ·rcases List.mem_cons.1 hy with rfl|hy
   ·assumption
   ·exact ih _ h y hy
theorem abG (ino:Int) (l:List bm):(∀y∈l,y.f0≠ino)→∀j:Nat,(uW ino l j= -1∧lr ino l=l.length)∨(uW ino l j=((j+lr ino l:Nat):Int)∧lr ino l<l.length):=by
 induction l with
 |nil=>intro _ j;exact .inl ⟨rfl,rfl⟩
 |cons x l ih=>
  intro h j;have hx:=h x (List.mem_cons_self ..);rw[uW,lr]
  by_cases c:ino<x.f0
  ·rw[if_pos c,if_neg (by omega)];exact .inr ⟨by simp,by simp⟩
  ·rw[if_neg c,if_pos (by omega)];rcases ih (fun y hy=>h y (List.mem_cons_of_mem _ hy)) (j+1)with⟨h1,h2⟩|⟨h1,h2⟩
   ·exact .inl ⟨h1,by rw[h2];rfl⟩
   ·exact .inr ⟨by rw[h1];congr 1;omega,by simp only[List.length_cons];omega⟩
theorem abH (ino:Int) (l:List bm) (h:cy ino l 0<0):gtP ino l=lr ino l:=by
 unfold gtP;rcases abG ino l (wV ino l 0 h) 0 with⟨h1,h2⟩|⟨h1,h2⟩
 ·rw[h1,if_pos (by omega),h2]
 ·rw[h1,if_neg (by omega)];omega
theorem abI (ino:Int) (l:List bm):lr ino l≤l.length:=by
 induction l with
 |nil=>exact Nat.le_refl _
 |cons x l ih=>rw[lr,List.length_cons];split<;>omega
theorem vC (x:bm) (l:List bm):(lW x l).length≤l.length+1:=by
 unfold lW
 split
 ·rw[List.length_set];omega
 ·simp only[List.length_append,List.length_take,List.length_drop,List.length_singleton];omega
theorem abJ (x y:bm) (l:List bm) (h:y∈lW x l):y=x∨y∈l:=by
 unfold lW at h
 split at h
 ·rcases List.mem_or_eq_of_mem_set h with h|h
  ·exact .inr h
  ·exact .inl h
 ·rcases List.mem_append.1 h with h|h
  ·rcases List.mem_append.1 h with h|h
   ·exact .inr (List.mem_of_mem_take h)
   ·exact .inl (by simpa using h)
  ·exact .inr (List.mem_of_mem_drop h)
theorem nu (a b:List bm):cU (a++b)=cU a+cU b:=by unfold cU;rw[List.map_append,List.sum_append]
theorem wW (x:bm) (l:List bm):cU (lW x l)≤cU l+ma x:=by
 unfold lW
 split
 ·generalize (cy x.f0 l 0).toNat=i;rw[List.set_eq_take_append_cons_drop]
  split
  ·have h:cU l=cU (l.take i)+cU (l.drop i):=by rw[←nu,List.take_append_drop]
   have h2:cU (l.drop (i+1))≤cU (l.drop i):=by
    rcases Nat.lt_or_ge i l.length with hi|hi
    ·rw[List.drop_eq_getElem_cons hi];unfold cU;rw[List.map_cons,List.sum_cons];omega
    ·rw[List.drop_of_length_le hi,List.drop_of_length_le (by omega)];exact Nat.le_refl _
   have h3:cU (x::l.drop (i+1))=ma x+cU (l.drop (i+1)):=by unfold cU;simp
   rw[nu,h3]
   omega
  ·omega
 ·generalize gtP x.f0 l=i
  have h:cU l=cU (l.take i)+cU (l.drop i):=by rw[←nu,List.take_append_drop]
  rw[nu,nu]
  have:cU [x]=ma x:=by unfold cU;simp
  omega
theorem abK (l:List bm) (nx:Int) (x:bm) (hl:l.length≤1048576) (hs:∀x∈l,hJ x) (hx:hJ x):Ev (fun k=>cC.f k l nx x.f0 x.f1 x.f2 x.f3 x.f4 x.f5) (lW x l,nx):=by
 unfold cC.f;refine Ev.bind (pg l nx hl hs) ?_;simp only[rO x hx,Option.bind_some];exact bp (by omega) (Ev.now _)
theorem abL (l:List bm) (nx:Int) (x:bm) (hl:l.length≤1048576) (hs:∀x∈l,hJ x) (hx:hJ x):Ev (fun k=>aY.f k l nx x.f0 x.f1 x.f2 x.f3 x.f4 x.f5) (lW x l,nx):=by
 have hr:=kH x.f0 l 0;unfold aY.f;refine Ev.bind (lh l nx hl hs) (Ev.bind (oI l nx x.f0 hl) ?_)
 by_cases c:0≤cy x.f0 l 0
 ·simp only[pV x hx,Option.bind_some];refine bp c (bp c (bp (by omega) (fm (Ev.now _) ?_)));unfold lW;rw[if_pos c]
 ·refine dw c ?_
  have hp:lW x l=l.take (lr x.f0 l)++[x]++l.drop (lr x.f0 l):=by
   unfold lW;rw[if_neg c,abH _ _ (by omega)]
  rw[hp];have hle:=abI x.f0 l
  have key:=down (n:=l.length) (P:=fun i=>i+lr x.f0 (l.drop i)=lr x.f0 l→Ev (fun k=>aY.l0 k (i:Nat) l nx x.f0 x.f1 x.f2 x.f3 x.f4 x.f5 l nx) (l.take (lr x.f0 l)++[x]++l.drop (lr x.f0 l),nx)) (fun hi=>by
    rw[List.drop_length]at hi
    have hi':l.length=lr x.f0 l:=by rw[←hi];rfl
    apply aV
    simp only[aY.l0,pV x hx,Option.bind_some,Int.toNat_natCast,List.nil_append,List.length_nil];refine dw (by omega) (bp (by omega) (bp (by omega) (bp (by rw[List.length_take];omega) (bp (by rw[List.length_take];omega) (bp (by simp only[List.length_append,List.length_take,List.length_drop,List.length_singleton];omega) (fm (Ev.now _) ?_))))))
    rw[←hi']) (fun i hi h hd=>by
    have hrd:af l (i:Int)=l[i]:=getD_at l _ i hi;rw[List.drop_eq_getElem_cons hi,lr]at hd
    apply aV
    simp only[aY.l0,hrd,pV x hx,Option.bind_some,Int.toNat_natCast,List.nil_append,List.length_nil];rw[nt i l.length hi (by omega)];refine bp (by omega) (bp (by omega) ?_)
    by_cases cc:l[i].f0<x.f0
    ·rw[if_pos cc]at hd;exact bp cc (h (by omega))
    ·rw[if_neg cc]at hd;refine dw cc (bp (by omega) (bp (by rw[List.length_take];omega) (bp (by rw[List.length_take];omega) (bp (by simp only[List.length_append,List.length_take,List.length_drop,List.length_singleton];omega) (fm (Ev.now _) ?_)))))
     rw[show i=lr x.f0 l by omega])
  exact key (by simp)
end Go.Proofs.YtlecajlnjmbilaaGreatDoor.Q
namespace Go.Proofs.YtlecajlnjmbilaaGreatDoor.Q
open Go.RowKit Go.Proofs.YtlecajlnjmbilaaGreatDoor.P Go.Proofs.ab.aq Go.Proofs.ab.aM Go.Proofs.ab.aT
end Go.Proofs.YtlecajlnjmbilaaGreatDoor.Q
namespace Go.Proofs.YtlecajlnjmbilaaGreatDoor.Q
open Go.RowKit Go.Proofs.YtlecajlnjmbilaaGreatDoor.P Go.Proofs.ab.aq Go.Proofs.ab.aM Go.Proofs.ab.aT
end Go.Proofs.YtlecajlnjmbilaaGreatDoor.Q
namespace Go.Proofs.YtlecajlnjmbilaaGreatDoor.Q
open Go.RowKit Go.Proofs.YtlecajlnjmbilaaGreatDoor.P Go.Proofs.ab.aq Go.Proofs.ab.aM Go.Proofs.ab.aT
end Go.Proofs.YtlecajlnjmbilaaGreatDoor.Q
namespace Go.Proofs.YtlecajlnjmbilaaGreatDoor.Q
open Go.RowKit Go.Proofs.YtlecajlnjmbilaaGreatDoor.P Go.Proofs.ab.aq Go.Proofs.ab.aM Go.Proofs.ab.aT
end Go.Proofs.YtlecajlnjmbilaaGreatDoor.Q
namespace Go.Proofs.YtlecajlnjmbilaaGreatDoor.Q
open Go.RowKit Go.Proofs.YtlecajlnjmbilaaGreatDoor.P Go.Proofs.ab.aq Go.Proofs.ab.aM Go.Proofs.ab.aT
theorem pT.a {x:bm}(h:pT x):hJ x:=⟨h.d,h.e,h.t⟩
def oh (T:List bm) (nx:Int) (ps:List ByteArray):Bool:=ps.all (fun p=>(jv p).2)&&lY T nx
theorem abM (T:List bm) (nx:Int) (ps:List ByteArray) (hT:T.length≤1048576) (hs:∀x∈T,pT x) (hp:∀p∈ps,p.size≤1048576) (hn:ps.length≤1048576):Ev (fun k=>dk.f k T nx ps) (oh T nx ps):=by
 have key:=down (n:=ps.length) (P:=fun i=>Ev (fun k=>dk.l0 k ps (ps.length:Int) (i:Nat) T nx) ((ps.drop i).all (fun p=>(jv p).2)&&lY T nx)) (by
   apply aV
   simp only[dk.l0,List.drop_length]
   exact dw (by omega) (Ev.bind (vB T nx hT hs) (fm (Ev.now _) (by simp)))) (fun i hi h=>by
   have hrd:lx ByteArray.empty ps (i:Int)=ps[i]:=getD_at ps _ i hi
   apply aV
   simp only[dk.l0,hrd];rw[nt i ps.length hi (by omega),List.drop_eq_getElem_cons hi,List.all_cons];refine bp (by omega) (bp (by omega) (bp (by omega) (Ev.bind (rQ _ (hp _ (List.getElem_mem hi))) ?_)))
   by_cases c:(jv ps[i]).2=true
   ·exact bp c (fm h (by rw[c,Bool.true_and]))
   ·exact dw c (fm (Ev.now _) (by rw[show(jv ps[i]).2=false by simpa using c];rfl)))
 simpa [dk.f,oh]using key
theorem yD (T:List bm) (p:ByteArray):(ka T p).1=uf∨(ka T p).1∈T:=by
 unfold ka
 split
 ·split
  ·right
   rename_i h1 h2
   show fo T (lH T p).1∈T
   unfold fo;unfold eO at h2;have h2:=of_decide_eq_true h2;rw[if_neg (by omega)];rcases kH (lH T p).1 T 0 with h|h
   ·omega
   ·obtain⟨n,hn⟩:∃n:Nat,cy (lH T p).1 T 0=n:=⟨(cy (lH T p).1 T 0).toNat,by omega⟩;rw[hn]at h⊢;have hrd:af T (n:Int)=T[n]'(by omega):=getD_at T _ n (by omega);rw[hrd];exact List.getElem_mem _
  ·exact .inl rfl
 ·exact .inl rfl
end Go.Proofs.YtlecajlnjmbilaaGreatDoor.Q
namespace Go.Proofs.YtlecajlnjmbilaaGreatDoor.Q
open Go.RowKit Go.Proofs.YtlecajlnjmbilaaGreatDoor.P Go.Proofs.ab.aq Go.Proofs.ab.aM Go.Proofs.ab.aT
structure Bd (Y:List bm):Prop where
 len:Y.length≤1048577
 a:∀y∈Y,hJ y
 w:cU Y≤4611686018427380000
theorem wX (x:bm) (h:hJ x):ma x≤5242883:=by
 have h1:=h.d;have h2:=h.e;have h3:=h.t;unfold ma inW
 omega
theorem Bd.of (T:List bm) (hT:T.length≤1048576) (hA:∀x∈T,hJ x) (hw:cU T≤1000000000000):Bd T:=⟨by omega,hA,by omega⟩
theorem Bd.set1 (T:List bm) (x:bm) (hT:T.length≤1048576) (hA:∀x∈T,hJ x) (hw:cU T≤1000000000000) (hx:hJ x):Bd (lW x T):=by
 have h1:=wW x T;have h2:=wX x hx;refine⟨Nat.le_trans (vC _ _) (by omega),fun y hy=> ?_,by omega⟩;rcases abJ _ _ _ hy with rfl|hy
 ·exact hx
 ·exact hA y hy
theorem Bd.filter {Y:List bm}(h:Bd Y) (f:bm→Bool):Bd (Y.filter f):=
 ⟨Nat.le_trans (List.length_filter_le ..) h.len,fun y hy=>h.a y (List.mem_filter.1 hy).1,Nat.le_trans (ua f Y) h.w⟩
theorem acp (T:List bm) (nx:Int) (Y:List bm) (m c:Int) (hT:T.length≤1048576) (hA:∀x∈T,hJ x) (hw:cU T≤1000000000000) (hY:Bd Y):
  Ev (fun k=>(fL.f k Y m Y m).bind fun e1=>(fL.f k T nx T nx).bind fun e2=>(eB.f k T 1).bind fun mt=>(eB.f k Y 1).bind fun mm=>(fi.f k mm.2 m 1).bind fun q=>
   if c=c∧e1=true∧e2=true∧¬mt.1<0∧¬q<0∧q=mm.1∧mm.2.length=Y.length then some true else none) true:=by
 have hl2:=hY.len;have hw2:=hY.w;obtain⟨mt,m1,_,_,_⟩:=abv T 1 hT (by omega) (by omega);obtain⟨mg,m2,k2,k3,hh⟩:=sX Y 1 hl2 (by omega) (by omega);have m3:=yn mg m 1 (by omega) (by omega) (by omega) hh;rw[k3]at m3;refine Ev.bind (rM Y m (by omega) (rP hY.a)) (Ev.bind (rM T nx (by omega) (rP hA)) (Ev.bind m1 (Ev.bind m2 (Ev.bind m3 (bp ?_ (Ev.now _))))));exact⟨rfl,rfl,rfl,by dsimp only;omega,by omega,rfl,k2⟩
theorem abg (l:List nc) (h:∀x∈l,acu x):∀x∈l.map ju,pT x:=by
 intro x hx;obtain⟨y,hy,rfl⟩:=List.mem_map.1 hx;have hS:=h y hy;refine⟨hS.d,by simpa [ju]using hS.e,by simpa [ju]using hS.t,fun z hz=> ?_,fun z hz=> ?_⟩
 ·obtain⟨u,hu,rfl⟩:=List.mem_map.1 hz;exact hS.en u hu
 ·obtain⟨u,hu,rfl⟩:=List.mem_map.1 hz;exact(hS.tn u hu).1
end Go.Proofs.YtlecajlnjmbilaaGreatDoor.Q
namespace Go.Proofs.YtlecajlnjmbilaaGreatDoor.Q
open Go.RowKit Go.Proofs.YtlecajlnjmbilaaGreatDoor.P Go.Proofs.ab.aq Go.Proofs.ab.aM Go.Proofs.ab.aT
section
variable (ex:Int→Bool) (kids:Int→List Int)
def below:Nat→Int→List Int
 |0,_=>[]
 |k+1,x=>if kids x=[]then []else x::(kids x).flatMap (below k)
variable {ex kids}
end
end Go.Proofs.YtlecajlnjmbilaaGreatDoor.Q
namespace Go.Proofs.YtlecajlnjmbilaaGreatDoor.Q
open Go.RowKit Go.Proofs.YtlecajlnjmbilaaGreatDoor.P Go.Proofs.ab.aq Go.Proofs.ab.aM Go.Proofs.ab.aT
theorem yE (n:Int) (l:List bm):∀i:Nat,cy n l i= -1∨∃j,∃h:j<l.length,cy n l i=((i+j:Nat):Int)∧l[j].f0=n:=by
 induction l with
 |nil=>intro i;exact .inl rfl
 |cons x l ih=>
  intro i;rw[cy]
  split
  ·rename_i h;exact .inr ⟨0,by simp,by simp,h⟩
  ·rcases ih (i+1)with h|⟨j,hj,h,e⟩
   ·exact .inl h
   ·exact .inr ⟨j+1,by simp;omega,by rw[h];congr 1;omega,by simpa using e⟩
theorem abN (l:List bm) (n:Int) (h:eO l n=true):fo l n∈l∧(fo l n).f0=n:=by
 unfold eO at h;have h:=of_decide_eq_true h;rcases yE n l 0 with g|⟨j,hj,g,e⟩
 ·omega
 ·unfold fo;rw[if_neg (by omega),g]
  have:af l (((0+j:Nat):Int))=l[j]:=by rw[Nat.zero_add];exact getD_at l _ j hj
  rw[this];exact⟨List.getElem_mem hj,e⟩
theorem abO (nx:Int) (l:List bm):∀p,kI nx p l=true→∀x∈l,rN x=true:=by
 induction l with
 |nil=>intro _ _ x hx;simp at hx
 |cons y l ih=>
  intro p h x hx;simp only[kI,Bool.and_eq_true]at h;rcases List.mem_cons.1 hx with rfl|hx
  ·exact h.1.1.1
  ·exact ih _ h.2 x hx
theorem yF (es:List ey):∀p,mq p es=true→∀e∈es,2≤e.f1∧fX e.f0=true:=by
 induction es with
 |nil=>intro _ _ x hx;simp at hx
 |cons y l ih=>
  intro p h x hx;simp only[mq,Bool.and_eq_true,decide_eq_true_eq]at h;rcases List.mem_cons.1 hx with rfl|hx
  ·exact⟨h.1.1.2.1,h.1.1.1⟩
  ·exact ih _ h.2 x hx
structure abP (l:List bm):Prop where
 len:l.length≤30
 ok:∀x∈l,rN x=true
 lk:∀x∈l,x.f2=(eJ x.f0 l:Int)
 en:∀x∈l,∀e∈x.f4,eO l e.f1=true
 rt:eO l 1=true
 re:(yy (eO l) (iE l) l.length [1]).length=l.length
theorem vD (l:List bm) (nx:Int) (h:lY l nx=true):abP l:=by
 simp only[lY,pd,Bool.and_eq_true,decide_eq_true_eq]at h;obtain⟨⟨⟨h1,_⟩,h2,_⟩,h3,h4⟩:=h
 have ht:∀x∈l,x.f2=(eJ x.f0 l:Int)∧mz l x.f4=true:=by
  intro x hx;have:=List.all_eq_true.1 h4 x hx
  simpa using this
 have hr:eO l 1=true:=by
  apply Classical.byContradiction
  intro hn;unfold px at h3;rw[if_neg hn]at h3;simp at h3;omega
 refine⟨h1.2,abO nx l none h2,fun x hx=>(ht x hx).1,fun x hx e he=>List.all_eq_true.1 (ht x hx).2 e he,hr,?_⟩;unfold px at h3
 rwa [if_pos hr]at h3
theorem yG (x:bm) (h:rN x=true):x.f4.length≤10∧(∀e∈x.f4,2≤e.f1∧fX e.f0=true)∧(x.f1=2→x.f2≤1)∧(x.f1≠2→x.f4=[]):=by
 simp only[rN,ic,pv,Bool.and_eq_true,decide_eq_true_eq]at h;obtain⟨⟨⟨_,he⟩,_⟩,hk⟩:=h;refine⟨he.2,yF _ _ he.1,fun h2=> ?_,fun h2=> ?_⟩
 ·unfold kindOk at hk;rw[if_neg (by omega),if_pos h2]at hk;simp only[Bool.and_eq_true,decide_eq_true_eq]at hk;exact hk.2
 ·unfold kindOk at hk
  by_cases c:x.f1=1
  ·rw[if_pos c]at hk;exact List.eq_nil_of_length_eq_zero (by simpa using hk)
  ·rw[if_neg c,if_neg h2]at hk
   cases hk
theorem abP.kids {l:List bm}(t:abP l) (n:Int) (h:eO l n=true):iE l n=(fo l n).f4.map (·.f1):=by
 unfold iE
 split
 ·rfl
 ·rename_i c
  have:=(yG _ (t.ok _ (abN l n h).1)).2.2.2 (fun e=>c ⟨h,e⟩);rw[this];rfl
end Go.Proofs.YtlecajlnjmbilaaGreatDoor.Q
namespace Go.Proofs.YtlecajlnjmbilaaGreatDoor.Q
open Go.RowKit Go.Proofs.YtlecajlnjmbilaaGreatDoor.P Go.Proofs.ab.aq Go.Proofs.ab.aM Go.Proofs.ab.aT
def gtB (a b:ByteArray):Bool:= !(Op.bytesLess a.toList b.toList||a.toList==b.toList)
def leB (a b:ByteArray):Prop:=a.data.toList≤b.data.toList
theorem acz (a b:ByteArray):gtB a b=true↔¬leB a b:=by
 unfold gtB leB;rw[ByteArray.toList_eq,ByteArray.toList_eq,Go.Proofs.bytesLess_eq];simp only[Bool.not_eq_true',Bool.or_eq_false_iff,decide_eq_false_iff_not,beq_eq_false_iff_ne,ne_eq]
 constructor
 ·rintro⟨h1,h2⟩ h;exact h2 (List.le_antisymm h (List.not_lt.1 h1))
 ·intro h;exact⟨fun g=>h (List.le_of_lt g),fun g=>h (by rw[g];exact List.le_refl _)⟩
end Go.Proofs.YtlecajlnjmbilaaGreatDoor.Q
namespace Go.Proofs.YtlecajlnjmbilaaGreatDoor.Q
open Go.RowKit Go.Proofs.YtlecajlnjmbilaaGreatDoor.P Go.Proofs.ab.aq Go.Proofs.ab.aM Go.Proofs.ab.aT
def oM (a b:ByteArray):Prop:=a.data.toList<b.data.toList
theorem tc (a b:ByteArray):Op.bytesLess a.toList b.toList=true↔oM a b:=by
 unfold oM;rw[ByteArray.toList_eq,ByteArray.toList_eq,Go.Proofs.bytesLess_eq,decide_eq_true_eq]
theorem oN {a b c:ByteArray}(h:oM a b) (g:oM b c):oM a c:=List.lt_trans h g
theorem py (a:ByteArray):¬oM a a:=List.lt_irrefl _
theorem abQ (a b:ByteArray):gtB a b=true↔oM b a:=(acz a b).trans List.not_le
section
variable {α:Type}(key:α→ByteArray) (d:α)
def pZ (xs:List α) (n:ByteArray):Nat→Nat
 |0=>0
 |k+1=>if gtB (key (xs.getD k d)) n=true then pZ xs n k else k+1
def pN (xs:List α) (x:α):List α:=xs.take (pZ key d xs (key x) xs.length)++[x]++xs.drop (pZ key d xs (key x) xs.length)
theorem ui (xs:List α) (n:ByteArray) (p:Nat) (h1:∀i (hi:i<xs.length),i<p→¬oM n (key xs[i])) (h2:∀i (hi:i<xs.length),p≤i→oM n (key xs[i])):
  ∀k,p≤k→k≤xs.length→pZ key d xs n k=p
 |0,h,_=>by rw[pZ];omega
 |k+1,h,hk=>by
  have g:xs.getD k d=xs[k]:=by rw[List.getD_eq_getElem?_getD,List.getElem?_eq_getElem (by omega)];rfl
  rw[pZ,g]
  by_cases c:p=k+1
  ·rw[if_neg (fun e=>h1 k (by omega) (by omega) ((abQ _ _).1 e))];exact c.symm
  ·rw[if_pos ((abQ _ _).2 (h2 k (by omega) (by omega)))];exact ui xs n p h1 h2 k (by omega) (by omega)
def td (xs:List α):Prop:=xs.Pairwise fun a b=>oM (key a) (key b)
theorem td.place {xs:List α}(h:td key xs) (n:ByteArray) (p:Nat) (hp:p≤xs.length) (h1:∀i (hi:i<xs.length),i<p→¬oM n (key xs[i])) (h2:∀hi:p<xs.length,oM n (key xs[p])):
  pZ key d xs n xs.length=p:=by
 refine ui key d xs n p h1 (fun i hi hpi=> ?_) _ hp (Nat.le_refl _)
 have hps:p<xs.length:=by omega
 rcases Nat.lt_or_ge p i with c|c
 ·exact oN (h2 hps) (List.pairwise_iff_getElem.1 h p i hps hi c)
 ·have:p=i:=by omega
  subst this;exact h2 hps
end
theorem vE (l:List ct):∀p,lF p l=true→(∀q,p=some q→∀e∈l,oM q e.f0)∧td (fun e:ct=>e.f0) l:=by
 induction l with
 |nil=>intro p _;exact⟨fun _ _ e he=>by simp at he,List.Pairwise.nil⟩
 |cons x l ih=>
  intro p h;simp only[lF,Bool.and_eq_true]at h;obtain⟨h1,h2⟩:=ih _ h.2;refine⟨fun q hq e he=> ?_,List.pairwise_cons.2 ⟨fun e he=>h1 x.f0 rfl e he,h2⟩⟩;subst hq;have hx:oM q x.f0:=(tc _ _).1 h.1.2;rcases List.mem_cons.1 he with rfl|he
  ·exact hx
  ·exact oN hx (h1 x.f0 rfl e he)
end Go.Proofs.YtlecajlnjmbilaaGreatDoor.Q
namespace Go.Proofs.YtlecajlnjmbilaaGreatDoor.Q
open Go.RowKit Go.Proofs.YtlecajlnjmbilaaGreatDoor.P Go.Proofs.ab.aq Go.Proofs.ab.aM Go.Proofs.ab.aT
end Go.Proofs.YtlecajlnjmbilaaGreatDoor.Q
namespace Go.Proofs.YtlecajlnjmbilaaGreatDoor.Q
open Go.RowKit Go.Proofs.YtlecajlnjmbilaaGreatDoor.P Go.Proofs.ab.aq Go.Proofs.ab.aM Go.Proofs.ab.aT
theorem ready_one (T:List bm) (nx:Int) (p:ByteArray):oh T nx [p]=true↔(lY T nx=true∧(jv p).2=true):=by
 unfold oh;simp only[List.all_cons,List.all_nil,Bool.and_true,Bool.and_eq_true];exact⟨fun h=>⟨h.2,h.1⟩,fun h=>⟨h.2,h.1⟩⟩
end Go.Proofs.YtlecajlnjmbilaaGreatDoor.Q
namespace Go.Proofs.YtlecajlnjmbilaaGreatDoor.Q
open Go.RowKit Go.Proofs.YtlecajlnjmbilaaGreatDoor.P Go.Proofs.ab.aq Go.Proofs.ab.aM Go.Proofs.ab.aT
theorem vF {α:Type}(S R:List α) (k:Nat) (hk:k≤S.length) (y v:α):(S.take k++y::R).set ((k:Nat):Int).toNat v=S.take k++v::R:=by
 rw[Int.toNat_natCast,List.set_append,if_neg (by rw[List.length_take];omega),List.length_take,Nat.min_eq_left hk,Nat.sub_self,List.set_cons_zero]
theorem abR (a b:ByteArray):gtB a b=Op.bytesLess b.toList a.toList:=by
 unfold gtB;rw[Bool.not_or];exact abZ _ _
end Go.Proofs.YtlecajlnjmbilaaGreatDoor.Q
namespace Go.Proofs.YtlecajlnjmbilaaGreatDoor.Q
open Go.RowKit Go.Proofs.YtlecajlnjmbilaaGreatDoor.P Go.Proofs.ab.aq Go.Proofs.ab.aM Go.Proofs.ab.aT
abbrev om (a:ct):ByteArray:=a.f0
def te (x:bm) (t:List ct):bm:=⟨x.f0,x.f1,x.f2,x.f3,x.f4,t⟩
def oc (nm:ByteArray) (l:List ct):List ct:=l.filter fun a=> !(a.f0.toList==nm.toList)
theorem uj {a b:ByteArray}(h:a.toList=b.toList):a=b:=by
 have h2:a.data.toList=b.data.toList:=by rw[←toList_data,←toList_data];exact h
 rw[←oe a,←oe b,h2]
theorem aei {a b:ByteArray}(h:oM a b):(a.toList==b.toList)=false:=by
 rw[beq_eq_false_iff_ne];intro e;rw[uj e]at h;exact py _ h
theorem aej {a b:ByteArray}(h:oM b a):(a.toList==b.toList)=false:=by
 rw[beq_eq_false_iff_ne];intro e;rw[uj e]at h;exact py _ h
theorem sd (nm:ByteArray) (l:List ct) (h:∀a∈l,oM a.f0 nm∨oM nm a.f0):oc nm l=l:=
 List.filter_eq_self.2 fun a ha=>by
  rcases h a ha with g|g
  ·rw[aei g];rfl
  ·rw[aej g];rfl
theorem abS (nm:ByteArray) (A B:List ct) (x:ct) (hA:∀a∈A,oM a.f0 nm) (hx:x.f0=nm) (hB:∀a∈B,oM nm a.f0):oc nm (A++x::B)=A++B:=by
 have hA:=sd nm A fun a ha=> .inl (hA a ha)
 have hB:=sd nm B fun a ha=> .inr (hB a ha)
 unfold oc at*;rw[List.filter_append,List.filter_cons_of_neg (by rw[hx];simp),hA,hB]
theorem xv (nm v:ByteArray) (A B:List ct) (hA:∀a∈A,oM a.f0 nm) (hB:∀a∈B,oM nm a.f0):pN om z82 (A++B) ⟨nm,v⟩=A++⟨nm,v⟩::B:=by
 have hp:pZ om z82 (A++B) nm (A++B).length=A.length:=by
  refine ui om z82 (A++B) nm A.length (fun i hi h=> ?_) (fun i hi h=> ?_) _ (by rw[List.length_append];omega) (Nat.le_refl _)
  ·rw[List.getElem_append_left h]
   exact fun g=>py _ (oN g (hA _ (List.getElem_mem h)))
  ·rw[List.getElem_append_right h];exact hB _ (List.getElem_mem _)
 unfold pN
 show(A++B).take (pZ om z82 (A++B) nm (A++B).length)++[(⟨nm,v⟩:ct)]++(A++B).drop (pZ om z82 (A++B) nm (A++B).length)=_
 rw[hp,List.take_left,List.drop_left,List.append_assoc];rfl
theorem abT (n a:ByteArray):geS n a=true↔¬oM a n:=by
 unfold geS;rw[←tc]
 cases Op.bytesLess a.toList n.toList<;>simp
theorem yH (n:ByteArray) (l:List ct):∀j:Nat,(wh n l j<0∧∀x∈l,oM x.f0 n)∨∃A x B,l=A++x::B∧wh n l j=((j+A.length:Nat):Int)∧(∀a∈A,oM a.f0 n)∧¬oM x.f0 n:=by
 induction l with
 |nil=>intro j;exact .inl ⟨by rw[wh];decide,fun x hx=>by simp at hx⟩
 |cons y l ih=>
  intro j;rw[wh]
  by_cases c:geS n y.f0=true
  ·rw[if_pos c];exact .inr ⟨[],y,l,rfl,by simp,fun a ha=>by simp at ha,(abT _ _).1 c⟩
  ·rw[if_neg c]
   have hy:oM y.f0 n:=Classical.byContradiction fun h=>c ((abT _ _).2 h)
   rcases ih (j+1)with⟨h,g⟩|⟨A,x,B,rfl,h,g1,g2⟩
   ·refine .inl ⟨h,fun x hx=> ?_⟩;rcases List.mem_cons.1 hx with rfl|hx
    ·exact hy
    ·exact g x hx
   ·refine .inr ⟨y::A,x,B,rfl,by rw[h,List.length_cons];congr 1;omega,fun a ha=> ?_,g2⟩;rcases List.mem_cons.1 ha with rfl|ha
    ·exact hy
    ·exact g1 a ha
def pM (T:List bm) (nx:Int) (x:bm) (nm v:ByteArray):List bm×Int×Int:=
 if v.toList=([]:List UInt8)then(lW (te x (oc nm x.f5)) T,nx,0)
 else if 4≤(oc nm x.f5).length then(T,nx,5)else(lW (te x (pN om z82 (oc nm x.f5) ⟨nm,v⟩)) T,nx,0)
def nZ (T:List bm) (nx:Int) (p nm v:ByteArray):List bm×Int×Int:=
 if oh T nx [p]=true∧fX nm=true∧¬(v.size:Int)>16 then(if(ka T p).2=0 then pM T nx (ka T p).1 nm v else(T,nx,(ka T p).2))else(T,nx,1)
theorem acA (T:List bm) (nx:Int) (x:bm) (t:List ct) (hT:T.length≤1048576) (hA:∀x∈T,hJ x) (hx:hJ x) (ht:t.length≤1048576):Ev (fun k=>cC.f k T nx x.f0 x.f1 x.f2 x.f3 x.f4 t) (lW (te x t) T,nx):=
 abK T nx (te x t) hT hA ⟨hx.d,hx.e,ht⟩
theorem p_ (T:List bm) (nx:Int) (x:bm) (nm v:ByteArray) (A B:List ct) (hT:T.length≤1048576) (hA:∀x∈T,hJ x) (hx:hJ x) (hl:x.f5=A++B) (h4:x.f5.length≤4)
  (hs:td om x.f5) (h1:∀a∈A,oM a.f0 nm) (h2:∀y C,B=y::C→¬oM y.f0 nm):
  Ev (fun k=>aZ.j1 k v (A.length:Int) T nx nm x.f0 x.f1 x.f2 x.f3 x.f4 x.f5) (pM T nx x nm v):=by
 have miss:(∀a∈B,oM nm a.f0)→Ev (fun k=>aZ.j2 k v (A.length:Int) false T nx nm x.f0 x.f1 x.f2 x.f3 x.f4 x.f5) (pM T nx x nm v):=by
  intro hB
  have hr:oc nm x.f5=x.f5:=sd nm _ fun a ha=>by
   rw[hl]at ha;rcases List.mem_append.1 ha with h|h
   ·exact .inl (h1 a h)
   ·exact .inr (hB a h)
  have hi:pN om z82 x.f5 ⟨nm,v⟩=A++⟨nm,v⟩::B:=by rw[hl];exact xv nm v A B h1 hB
  unfold pM;rw[hr,hi]
  apply aV
  simp only[aZ.j2];refine dw (by decide) ?_
  apply aV
  simp only[aZ.j3];refine dw (by decide) (dw (by decide) ?_)
  by_cases c:v.toList=([]:List UInt8)
  ·rw[if_pos c];exact bp c (Ev.bind (acA T nx x x.f5 hT hA hx (by omega)) (Ev.now _))
  ·rw[if_neg c];refine dw c ?_
   by_cases c4:x.f5.length=4
   ·rw[if_pos (by omega)];exact bp (by omega) (Ev.now _)
   ·rw[if_neg (by omega)]
    have hlen:x.f5.length=A.length+B.length:=by rw[hl,List.length_append]
    have hins:ew.f x.f5 (A.length:Int) [(⟨nm,v⟩:ct)]=some (A++⟨nm,v⟩::B):=by
     unfold ew.f;rw[if_pos ⟨by omega,by omega,by omega⟩,Int.toNat_natCast,hl,List.take_left,List.drop_left,List.append_assoc];rfl
    refine dw (by omega) ?_;simp only[hins,Option.bind_some];exact Ev.bind (acA T nx x _ hT hA hx (by simp only[List.length_append,List.length_cons];omega)) (Ev.now _)
 apply aV
 simp only[aZ.j1]
 have hlen:x.f5.length=A.length+B.length:=by rw[hl,List.length_append]
 cases B with
 |nil=>exact dw (by rw[hlen,List.length_nil];omega) (miss fun a ha=>by simp at ha)
 |cons y C=>
  have hrd:an x.f5 (A.length:Int)=y:=by
   refine(getD_at _ _ A.length (by rw[hlen,List.length_cons];omega)).trans ?_;simp only[hl];rw[List.getElem_append_right (Nat.le_refl _)];simp
  have hy:=h2 y C rfl
  have hs2:∀a∈C,oM y.f0 a.f0:=by
   rw[hl]at hs
   exact fun a ha=>(List.pairwise_cons.1 (List.pairwise_append.1 hs).2.1).1 a ha
  rw[List.length_cons]at hlen;refine bp (by omega) (bp (by omega) ?_);rw[hrd]
  by_cases c:y.f0.toList=nm.toList
  ·have hyn:y.f0=nm:=uj c
   have hC:∀a∈C,oM nm a.f0:=fun a ha=>hyn▸hs2 a ha
   have hr:oc nm x.f5=A++C:=by rw[hl];exact abS nm A C y h1 hyn hC
   have hi:pN om z82 (A++C) ⟨nm,v⟩=A++⟨nm,v⟩::C:=xv nm v A C h1 hC;rw[beq_iff_eq.2 c];unfold pM;rw[hr,hi]
   apply aV
   simp only[aZ.j2];refine bp trivial ?_
   by_cases d:v.toList=([]:List UInt8)
   ·rw[if_pos d,beq_iff_eq.2 d]
    have hdel:eG.f x.f5 (A.length:Int) (wrap64 ((A.length:Int)+1))=some (A++C):=by
     unfold eG.f;rw[if_pos ⟨by omega,lf (by omega) (by omega),by omega⟩,Int.toNat_natCast,hl,List.eraseIdx_append_of_length_le (Nat.le_refl _),Nat.sub_self];rfl
    apply aV
    simp only[aZ.j3];refine bp trivial ?_;simp only[hdel,Option.bind_some];exact Ev.bind (acA T nx x _ hT hA hx (by rw[List.length_append];omega)) (Ev.now _)
   ·rw[if_neg d,beq_eq_false_iff_ne.2 d,if_neg (by rw[List.length_append];omega)]
    apply aV
    simp only[aZ.j3];refine dw (by decide) (bp trivial (bp (by omega) (bp (by omega) ?_)));rw[hrd,hyn,Int.toNat_natCast,hl,List.set_append,if_neg (by omega),Nat.sub_self,List.set_cons_zero];exact Ev.bind (acA T nx x _ hT hA hx (by simp only[List.length_append,List.length_cons];omega)) (Ev.now _)
  ·rw[beq_eq_false_iff_ne.2 c]
   have hyl:oM nm y.f0:=by
    unfold oM at hy⊢;rcases List.le_total nm.data.toList y.f0.data.toList with h|h
    ·rcases Classical.em (nm.data.toList<y.f0.data.toList)with g|g
     ·exact g
     ·exact absurd (by rw[toList_data,toList_data];exact List.le_antisymm (List.not_lt.1 g) h) c
    ·exact absurd (by rw[toList_data,toList_data];exact List.le_antisymm h (List.not_lt.1 hy)) c
   exact miss fun a ha=>by
    rcases List.mem_cons.1 ha with rfl|ha
    ·exact hyl
    ·exact oN hyl (hs2 a ha)
theorem wY (x:bm) (h:rN x=true):td om x.f5∧x.f5.length≤4:=by
 simp only[rN,ic,mr,Bool.and_eq_true,decide_eq_true_eq]at h;obtain⟨⟨_,ha⟩,_⟩:=h;exact⟨(vE x.f5 none ha.1).2,ha.2⟩
theorem pr (T:List bm) (nx:Int) (p:ByteArray) (h:lY T nx=true):td om (ka T p).1.f5∧(ka T p).1.f5.length≤4:=by
 rcases yD T p with e|e
 ·rw[e];exact⟨List.Pairwise.nil,by decide⟩
 ·exact wY _ ((vD T nx h).ok _ e)
theorem yf (T:List bm) (nx:Int) (p nm v:ByteArray) (hT:T.length≤1048576) (hs:∀x∈T,pT x) (hp:p.size≤1048576) (hn:nm.size≤1048576):Ev (fun k=>aZ.f k T nx p nm v) (nZ T nx p nm v):=by
 have hA:∀x∈T,hJ x:=fun x hx=>(hs x hx).a
 have bad:¬(oh T nx [p]=true∧fX nm=true∧¬(v.size:Int)>16)→Ev (fun k=>aZ.j0 k p v true T nx nm) (nZ T nx p nm v):=by
  intro c
  apply aV
  simp only[aZ.j0];refine bp trivial (fm (Ev.now _) ?_);unfold nZ;rw[if_neg c]
 unfold aZ.f;refine Ev.bind (pg T nx hT hA) (Ev.bind (abM T nx [p] hT hs (fun q hq=>by rw[List.mem_singleton.1 hq];exact hp) (by simp)) ?_)
 by_cases c1:oh T nx [p]=true
 ·refine bp c1 (Ev.bind (oG nm (by omega)) ?_)
  by_cases c2:fX nm=true
  ·refine bp c2 ?_
   by_cases c3:(v.size:Int)>16
   ·rw[decide_eq_true c3]
    exact bad fun h=>h.2.2 c3
   ·rw[decide_eq_false c3];unfold nZ;rw[if_pos ⟨c1,c2,c3⟩]
    apply aV
    simp only[aZ.j0];refine dw (by decide) (Ev.bind (yv T nx p hT hA hp) ?_);have hsm:=ob T p hA;obtain⟨hso,h4⟩:=pr T nx p ((ready_one T nx p).1 c1).1;simp only[tup];generalize ka T p=s at*
    by_cases d1:s.2=0
    ·refine bp d1 ?_;rw[if_pos d1]
     have hx:d_.f s.1.f5 nm=some (wh nm s.1.f5 0):=by unfold d_.f;rw[if_pos (by omega)]
     simp only[hx,Option.bind_some];rcases yH nm s.1.f5 0 with⟨h,g⟩|⟨A,x,B,hl,h,g1,g2⟩
     ·refine bp h ?_;exact p_ T nx s.1 nm v s.1.f5 [] hT hA hsm (List.append_nil _).symm h4 hso g (fun y C h=>by cases h)
     ·refine dw (by omega) ?_;rw[h,Nat.zero_add];exact p_ T nx s.1 nm v A (x::B) hT hA hsm hl h4 hso g1 (fun y C h=>by injection h with h _;exact h▸g2)
    ·refine dw d1 ?_;rw[if_neg d1];exact Ev.now _
  ·exact dw c2 (bad fun h=>c2 h.2.1)
 ·exact dw c1 (bad fun h=>c1 h.1)
theorem se (l:List ct) (nm v:ByteArray) (hl:l.length≤1048576):∀(k:Nat) (y:ct),k≤l.length→pZ om z82 l nm l.length=pZ om z82 l nm k→
  Ev (fun r=>cg.l0 r (l.take k++y::l.drop k) (k:Int) nm v) (pN om z82 l ⟨nm,v⟩)
 |0,y,_,hp=>by
  have hset:=vF l (l.drop 0) 0 (Nat.zero_le _) y (⟨nm,v⟩:ct)
  have he:l.take 0++(⟨nm,v⟩:ct)::l.drop 0=pN om z82 l ⟨nm,v⟩:=by unfold pN;rw[hp];simp[pZ]
  apply aV
  simp only[cg.l0];refine dw (by omega) (bp (by omega) (bp (by simp only[List.length_append,List.length_cons];omega) (fm (Ev.now _) ?_)));rw[hset,he]
 |k+1,y,hk,hp=>by
  have hw:wrap64 (((k+1:Nat):Int)-1)=(k:Int):=by rw[lf (by omega) (by omega)];omega
  have hlen:(l.take (k+1)++y::l.drop (k+1)).length=l.length+1:=by
   simp only[List.length_append,List.length_cons,List.length_take,List.length_drop];omega
  have hrd:an (l.take (k+1)++y::l.drop (k+1)) (k:Int)=l[k]:=by
   refine(getD_at _ _ k (by rw[hlen];omega)).trans ?_;rw[List.getElem_append_left (by rw[List.length_take];omega),List.getElem_take]
  have hg:l.getD k z82=l[k]:=by rw[List.getD_eq_getElem?_getD,List.getElem?_eq_getElem hk];rfl
  have hset:∀v,(l.take (k+1)++y::l.drop (k+1)).set ((k+1:Nat):Int).toNat v=l.take (k+1)++v::l.drop (k+1):=vF l _ (k+1) hk y
  have hsp:l.take (k+1)++l[k]::l.drop (k+1)=l.take k++l[k]::l.drop k:=by
   rw[List.drop_eq_getElem_cons hk,List.take_succ_eq_append_getElem hk,List.append_assoc];rfl
  rw[pZ,hg,abR]at hp
  apply aV
  simp only[cg.l0,hw,hrd];refine bp (by omega) (bp (by omega) (bp (by rw[hlen];omega) ?_))
  by_cases c:Op.bytesLess nm.toList l[k].f0.toList=true
  ·rw[if_pos c]at hp;refine bp c (bp (by omega) (bp (by rw[hlen];omega) ?_));rw[hset,show(⟨l[k].f0,l[k].f1⟩:ct)=l[k]from rfl,hsp];exact se l nm v hl k l[k] (by omega) hp
  ·rw[if_neg c]at hp;refine dw c (bp (by omega) (bp (by rw[hlen];omega) (fm (Ev.now _) ?_)))
   have he:l.take (k+1)++(⟨nm,v⟩:ct)::l.drop (k+1)=pN om z82 l ⟨nm,v⟩:=by unfold pN;rw[hp];simp
   rw[hset,he]
theorem yI (l:List ct) (nm v:ByteArray) (hl:l.length≤1048576):Ev (fun k=>cg.f k l nm v) (pN om z82 l ⟨nm,v⟩):=by
 have h:=se l nm v hl l.length ⟨nm,v⟩ (Nat.le_refl _) rfl;rw[List.take_length,List.drop_length]at h;unfold cg.f;simp only[Option.bind_some,List.nil_append];refine bp (by simp;omega) (bp (by simp;omega) ?_);rw[show(wrap64 (((l++[(⟨nm,v⟩:ct)]).length:Int)-1))=(l.length:Int) by rw[List.length_append,List.length_singleton,lf (by omega) (by omega)];omega];exact h
theorem sets (T:List bm) (nx:Int) (x:bm) (t:List ct) (hT:T.length≤1048576) (hA:∀x∈T,hJ x) (hx:hJ x) (ht:t.length≤1048576):Ev (fun k=>aY.f k T nx x.f0 x.f1 x.f2 x.f3 x.f4 t) (lW (te x t) T,nx):=
 abL T nx (te x t) hT hA ⟨hx.d,hx.e,ht⟩
theorem uk (T:List bm) (nx:Int) (x:bm) (nm v:ByteArray) (hT:T.length≤1048576) (hA:∀x∈T,hJ x) (hx:hJ x) (h4:x.f5.length≤4):
  Ev (fun k=>ch.l0 k nm v [] 0 T nx x.f0 x.f1 x.f2 x.f3 x.f4 x.f5) (pM T nx x nm v):=by
 have key:=down (n:=x.f5.length) (P:=fun i=>∀acc:List ct,acc.length≤i→acc++oc nm (x.f5.drop i)=oc nm x.f5→Ev (fun k=>ch.l0 k nm v acc (i:Nat) T nx x.f0 x.f1 x.f2 x.f3 x.f4 x.f5) (pM T nx x nm v)) (by
  intro acc hl he;rw[List.drop_length]at he
  have he:acc=oc nm x.f5:=by simpa [oc]using he
  subst he
  apply aV
  simp only[ch.l0];refine dw (by omega) ?_;unfold pM
  by_cases c:v.toList=([]:List UInt8)
  ·rw[if_pos c];exact bp c (Ev.bind (sets T nx x _ hT hA hx (by omega)) (Ev.now _))
  ·rw[if_neg c];refine dw c ?_
   by_cases c4:4≤(oc nm x.f5).length
   ·rw[if_pos c4];exact bp (by omega) (Ev.bind (lh T nx hT hA) (Ev.now _))
   ·rw[if_neg c4];refine dw (by omega) (Ev.bind (yI _ nm v (by omega)) (Ev.bind (sets T nx x _ hT hA hx ?_) (Ev.now _)));unfold pN;simp only[List.length_append,List.length_take,List.length_drop,List.length_singleton]
    omega) (fun i hi ih acc ha he=>by
  have hr:an x.f5 (i:Int)=x.f5[i]:=getD_at _ _ i hi;rw[List.drop_eq_getElem_cons hi]at he
  apply aV
  simp only[ch.l0,hr];rw[nt i x.f5.length hi (by omega)];refine bp (by omega) (bp (by omega) ?_)
  by_cases c:x.f5[i].f0.toList=nm.toList
  ·refine bp c (ih acc (by omega) ?_);unfold oc at he⊢;rw[List.filter_cons_of_neg (by simp[c])]at he;exact he
  ·refine dw c (bp (by omega) (ih (acc++[⟨x.f5[i].f0,x.f5[i].f1⟩]) (by simp;omega) ?_));unfold oc at he⊢;rw[List.filter_cons_of_pos (by simp[c])]at he;rw[List.append_assoc]
   exact he)
 exact key [] (Nat.zero_le _) (by rw[List.drop_zero,List.nil_append])
theorem ye (T:List bm) (nx:Int) (p nm v:ByteArray) (hT:T.length≤1048576) (hs:∀x∈T,pT x) (hp:p.size≤1048576) (hn:nm.size≤1048576):Ev (fun k=>ch.f k T nx p nm v) (nZ T nx p nm v):=by
 have hA:∀x∈T,hJ x:=fun x hx=>(hs x hx).a
 have bad:¬(oh T nx [p]=true∧fX nm=true∧¬(v.size:Int)>16)→Ev (fun k=>ch.j0 k p nm v true T nx) (nZ T nx p nm v):=by
  intro c
  apply aV
  simp only[ch.j0];refine bp trivial (Ev.bind (lh T nx hT hA) (fm (Ev.now _) ?_));unfold nZ;rw[if_neg c]
 unfold ch.f;refine Ev.bind (rR p hp) (Ev.bind (vA T nx hT hs) ?_)
 by_cases c1:lY T nx=true
 ·refine bp c1 ?_
  by_cases c2:(jv p).2=true
  ·have hrd:=(ready_one T nx p).2 ⟨c1,c2⟩;refine bp c2 (Ev.bind (nr nm (by omega)) ?_)
   by_cases c3:fX nm=true
   ·refine bp c3 ?_
    by_cases c4:(v.size:Int)>16
    ·rw[decide_eq_true c4]
     exact bad fun h=>h.2.2 c4
    ·rw[decide_eq_false c4];unfold nZ;rw[if_pos ⟨hrd,c3,c4⟩]
     apply aV
     simp only[ch.j0];refine dw (by decide) (Ev.bind (yw T nx p hT hA hp) ?_);have hsm:=ob T p hA;have h4:=(pr T nx p c1).2;simp only[tup];generalize ka T p=s at*
     by_cases d1:s.2=0
     ·refine bp d1 ?_;rw[if_pos d1];exact uk T nx s.1 nm v hT hA hsm h4
     ·refine dw d1 (Ev.bind (lh T nx hT hA) (fm (Ev.now _) ?_));rw[if_neg d1]
   ·exact dw c3 (bad fun h=>c3 h.2.1)
  ·exact dw c2 (bad fun h=>c2 ((ready_one T nx p).1 h.1).2)
 ·exact dw c1 (bad fun h=>c1 ((ready_one T nx p).1 h.1).1)
end Go.Proofs.YtlecajlnjmbilaaGreatDoor.Q
