/- What the functions that the law reaches answer, in plain words. No condition. -/
import Derived.Test.YtlecajlnjmbilaaGreatDoorKinds
import Derived.Test.YtlecajlnjmbilaaGreatDoorPx13
set_option linter.all false
namespace Go.Proofs.YtlecajlnjmbilaaGreatDoor.Q
open Go.RowKit Go.Proofs.ae.au Go.Proofs.ae.ba Go.Proofs.ae.bg
theorem aV {α:Type}{g:Nat→Option α}{r:α}(h:Ev (fun k=>g (k+1)) r):Ev g r:=by
 obtain⟨K,h⟩:=h;refine⟨K+1,fun n hn=> ?_⟩;obtain⟨m,rfl⟩:∃m,n=m+1:=⟨n-1,by omega⟩;exact h m (by omega)
theorem bs {α:Type}{c:Prop} [Decidable c] {A B:Nat→Option α}{r:α}(hc:c) (h:Ev A r):Ev (fun k=>if c then A k else B k) r:=by
 simpa only[if_pos hc]using h
theorem dv {α:Type}{c:Prop} [Decidable c] {A B:Nat→Option α}{r:α}(hc:¬c) (h:Ev B r):Ev (fun k=>if c then A k else B k) r:=by
 simpa only[if_neg hc]using h
theorem evI {α:Type}{c:Prop} [Decidable c] {A B:Nat→Option α}{r s:α}(hp:c→Ev A r) (hn:¬c→Ev B s):Ev (fun k=>if c then A k else B k) (if c then r else s):=by
 by_cases hc:c
 ·simpa only[if_pos hc]using hp hc
 ·simpa only[if_neg hc]using hn hc
theorem ug {α:Type}{c:Prop} [Decidable c] {A B:Nat→Option α}{r:α}(hp:c→Ev A r) (hn:¬c→Ev B r):Ev (fun k=>if c then A k else B k) r:=by
 by_cases hc:c
 ·simpa only[if_pos hc]using hp hc
 ·simpa only[if_neg hc]using hn hc
theorem eP {α:Type}{g:Nat→Option α}{r s:α}(h:Ev g r) (e:r=s):Ev g s:=e▸h
theorem kT {n:Int}(h0: -9223372036854775808≤n) (h1:n≤9223372036854775807):wrap64 n=n:=by
 unfold wrap64
 omega
theorem drop_cons (l:List Int) (i:Nat) (h:i<l.length):l.drop i=rd l i::l.drop (i+1):=by
 rw[List.drop_eq_getElem_cons h];simp[Go.Proofs.ae.au.rd,List.getElem?_eq_getElem h]
theorem toList_data (s:ByteArray):s.toList=s.data.toList:=by
 simp[ByteArray.toList_eq]
end Go.Proofs.YtlecajlnjmbilaaGreatDoor.Q
namespace Go.Proofs.YtlecajlnjmbilaaGreatDoor.Q
open Go.RowKit Go.Proofs.YtlecajlnjmbilaaGreatDoor.P Go.Proofs.ae.au Go.Proofs.ae.ba Go.Proofs.ae.bg
def kJ (c:Int):Bool:=decide (97≤c∧c≤122∨48≤c∧c≤57∨c=95∨c=45∨c=46)
def kW (s:ByteArray):Bool:=decide (1≤s.size∧s.size≤14)&&s.toList !=([46]:List UInt8)&&s.toList !=([46,46]:List UInt8)
def i_ (s:ByteArray):Bool:=(bytesOf s).all kJ&&kW s
theorem nn (a b c:Int):aT.f a b c=some (decide (b≤a∧a≤c)):=by
 unfold aT.f
 by_cases h:a≥b
 ·rw[if_pos h];simp[show b≤a from h]
 ·rw[if_neg h];simp[show¬b≤a from h]
theorem ta (s:ByteArray):((aT.f (s.size:Int) 1 14).bind fun t101=>(if t101=true then(if s.toList=([46]:List UInt8)then(some false)else(some (s.toList !=([46,46]:List UInt8))))else(some false)))=some (kW s):=by
 rw[nn];simp only[Option.bind_some,kW]
 by_cases h:1≤s.size∧s.size≤14
 ·rw[if_pos (by simp;omega)]
  by_cases h1:s.toList=[46]
  ·simp[h1]
  ·rw[if_neg h1];simp[h,h1]
 ·rw[if_neg (by simp;omega)];simp[h]
theorem tb (s:ByteArray):(if(s.size:Int)≥1 then(if(s.size:Int)≤14 then(if s.toList=([46]:List UInt8)then(some false)else(some (s.toList !=([46,46]:List UInt8))))else(some false))else(some false))=some (kW s):=by
 unfold kW
 by_cases h:1≤s.size
 ·rw[if_pos (by omega)]
  by_cases h2:s.size≤14
  ·rw[if_pos (by omega)]
   by_cases h1:s.toList=[46]
   ·simp[h1]
   ·rw[if_neg h1];simp[h,h2,h1]
  ·rw[if_neg (by omega)];simp[h2]
 ·rw[if_neg (by omega)];simp[h]
theorem rp (s:ByteArray) (i:Nat) (h:i<s.size):(bytesOf s).drop i=bt s i::(bytesOf s).drop (i+1):=by
 rw[drop_cons _ _ (by rw[bytesOf_length];exact h),uX]
theorem rq (s:ByteArray) (hs:s.size≤9223372036854775807) (n:Nat):∀(i:Nat),i≤s.size→s.size-i=n→
  Ev (fun k=>aQ.l0 k s i) (((bytesOf s).drop i).all kJ&&kW s):=by
 induction n with
 |zero=>
  intro i hi hn
  apply aV
  simp only[aQ.l0];refine dv (by omega) ?_;rw[ta,List.drop_eq_nil_of_le (by rw[bytesOf_length];omega)]
  simpa using Ev.now _
 |succ n ih=>
  intro i hi hn
  have hlt:i<s.size:=by omega
  have hr:=tI s i;have ih:=ih (i+1) (by omega) (by omega);rw[show((i+1:Nat):Int)=wrap64 ((i:Int)+1)from by rw[kT (by omega) (by omega)];simp]at ih
  apply aV
  simp only[aQ.l0,nn,Option.bind_some];rw[rp s i hlt,List.all_cons];refine bs (by omega) (bs (by omega) ?_);rw[kT (by omega) (by omega)];generalize bt s i=c at*
  by_cases h1:97≤c∧c≤122
  ·refine bs (by simp[h1]) (eP ih ?_);simp[kJ,h1]
  refine dv (by simp;omega) ?_
  by_cases h2:48≤c∧c≤57
  ·refine bs (by simp[h2]) (eP ih ?_);simp[kJ,h2]
  refine dv (by simp;omega) ?_
  by_cases h3:c=95
  ·refine bs h3 (eP ih ?_);simp[kJ,h3]
  refine dv h3 ?_
  by_cases h4:c=45
  ·refine bs h4 (eP ih ?_);simp[kJ,h4]
  refine dv h4 ?_
  by_cases h5:c=46
  ·refine bs h5 (eP ih ?_);simp[kJ,h5]
  refine dv h5 (eP (Ev.now _) ?_)
  have:kJ c=false:=by simp[kJ];omega
  simp[this]
theorem om (s:ByteArray) (hs:s.size≤9223372036854775807):Ev (fun k=>aQ.f k s) (i_ s):=by
 have h:=rq s hs s.size 0 (by omega) (by omega)
 simpa [aQ.f,i_]using h
theorem rr (s:ByteArray) (hs:s.size≤9223372036854775807) (n:Nat):∀(i:Nat),i≤s.size→s.size-i=n→
  Ev (fun k=>aC.l0 k s (s.size:Int) i) (((bytesOf s).drop i).all kJ&&kW s):=by
 induction n with
 |zero=>
  intro i hi hn
  apply aV
  simp only[aC.l0];refine dv (by omega) ?_;rw[tb,List.drop_eq_nil_of_le (by rw[bytesOf_length];omega)]
  simpa using Ev.now _
 |succ n ih=>
  intro i hi hn
  have hlt:i<s.size:=by omega
  have hr:=tI s i;have ih:=ih (i+1) (by omega) (by omega);rw[show((i+1:Nat):Int)=wrap64 ((i:Int)+1)from by rw[kT (by omega) (by omega)];simp]at ih
  apply aV
  simp only[aC.l0];rw[rp s i hlt,List.all_cons];refine bs (by omega) (bs (by omega) (bs (by omega) ?_));generalize bt s i=c at*
  by_cases hg:kJ c=true
  ·have e:(((bytesOf s).drop (i+1)).all kJ&&kW s)=(kJ c&&((bytesOf s).drop (i+1)).all kJ&&kW s):=by simp[hg]
   replace ih:=eP ih e;simp only[kJ,decide_eq_true_eq]at hg
   repeat(first|exact ih|refine ug (fun _=> ?_) (fun _=> ?_)|(exfalso;omega))
  ·have e:false=(kJ c&&((bytesOf s).drop (i+1)).all kJ&&kW s):=by simp[hg]
   have no:=eP (Ev.now false) e;simp only[kJ,decide_eq_true_eq]at hg
   repeat(first|exact no|refine ug (fun _=> ?_) (fun _=> ?_)|(exfalso;omega))
theorem pU (s:ByteArray) (hs:s.size≤9223372036854775807):Ev (fun k=>aC.f k s) (i_ s):=by
 have h:=rr s hs s.size 0 (by omega) (by omega)
 simpa [aC.f,i_]using h
end Go.Proofs.YtlecajlnjmbilaaGreatDoor.Q
namespace Go.Proofs.YtlecajlnjmbilaaGreatDoor.Q
open Go.RowKit Go.Proofs.YtlecajlnjmbilaaGreatDoor.P Go.Proofs.ae.au Go.Proofs.ae.ba Go.Proofs.ae.bg
theorem abi (l:List Int) (n i:Nat) (hn:n=l.length) (hi:i<n):(l.take i++List.replicate (n-i) 0).set i (rd l i)=l.take (i+1)++List.replicate (n-(i+1)) 0:=by
 subst hn;rw[List.set_append,if_neg (by rw[List.length_take];omega),show i-(l.take i).length=0 from by rw[List.length_take];omega];obtain⟨m,hm⟩:∃m,l.length-i=m+1:=⟨l.length-i-1,by omega⟩;rw[hm,List.replicate_succ,List.set_cons_zero,show l.length-(i+1)=m from by omega,List.take_succ_eq_append_getElem hi,List.append_assoc]
 have:rd l i=l[i]:=by simp[Go.Proofs.ae.au.rd,List.getElem?_eq_getElem hi]
 rw[this]
 rfl
theorem tc (l:List Int) (hl:l.length≤9223372036854775807) (n:Nat):∀(i:Nat),i≤l.length→l.length-i=n→
  Ev (fun k=>cM.l0 k l (l.take i++List.replicate (l.length-i) 0) i) l:=by
 induction n with
 |zero=>
  intro i hi hn
  apply aV
  simp only[cM.l0];refine dv (by omega) ?_;rw[List.take_of_length_le (by omega),hn]
  simpa using Ev.now l
 |succ n ih=>
  intro i hi hn;have ih:=ih (i+1) (by omega) (by omega);rw[show((i+1:Nat):Int)=wrap64 ((i:Int)+1)from by rw[kT (by omega) (by omega)];simp]at ih
  apply aV
  simp only[cM.l0];refine bs (by omega) (bs (by omega) (bs (by simp[List.length_append,List.length_take];omega) ?_));rw[Int.toNat_natCast,abi l _ i rfl (by omega)];exact ih
theorem rn (l:List Int) (hl:l.length≤281474976710656):Ev (fun k=>cM.f k l) l:=by
 have h:=tc l (by omega) l.length 0 (by omega) (by omega)
 simpa [cM.f,hl]using h
theorem acb (a b:List Int) (i:Nat) (ha:i<a.length) (hb:i<b.length):decide (a.drop i=b.drop i)=(decide (rd a i=rd b i)&&decide (a.drop (i+1)=b.drop (i+1))):=by
 rw[drop_cons a i ha,drop_cons b i hb]
 by_cases h:rd a i=rd b i<;>simp[h]
theorem td (a b:List Int) (hab:a.length=b.length) (hl:a.length≤9223372036854775807) (n:Nat):∀(i:Nat),i≤a.length→a.length-i=n→
  Ev (fun k=>cO.l0 k a b i) (decide (a.drop i=b.drop i)):=by
 induction n with
 |zero=>
  intro i hi hn
  apply aV
  simp only[cO.l0];refine dv (by omega) ?_;rw[List.drop_eq_nil_of_le (by omega),List.drop_eq_nil_of_le (by omega)]
  simpa using Ev.now true
 |succ n ih=>
  intro i hi hn;have ih:=ih (i+1) (by omega) (by omega);rw[show((i+1:Nat):Int)=wrap64 ((i:Int)+1)from by rw[kT (by omega) (by omega)];simp]at ih
  apply aV
  simp only[cO.l0];rw[acb a b i (by omega) (by omega)];refine bs (by omega) (bs (by omega) (bs (by omega) ?_))
  by_cases h:rd a i=rd b i
  ·refine bs h (eP ih ?_);simp[h]
  ·refine dv h (eP (Ev.now _) ?_);simp[h]
theorem ri (a b:List Int) (hl:a.length≤9223372036854775807):Ev (fun k=>cO.f k a b) (decide (a=b)):=by
 unfold cO.f
 by_cases h:a.length=b.length
 ·have h1:=td a b h hl a.length 0 (by omega) (by omega);refine bs (by omega) ?_
  simpa using h1
 ·refine dv (by omega) (eP (Ev.now _) ?_)
  have:a≠b:=fun e=>h (by rw[e])
  simp[this]
end Go.Proofs.YtlecajlnjmbilaaGreatDoor.Q
namespace Go.Proofs.YtlecajlnjmbilaaGreatDoor.Q
open Go.RowKit Go.Proofs.ae.au Go.Proofs.ae.ba Go.Proofs.ae.bg
theorem ui {α β:Type}(xs:List α) (f:α→β) (z:β) (i:Nat) (hi:i<xs.length):
  ((xs.take i).map f++List.replicate (xs.length-i) z).set i (f xs[i])=(xs.take (i+1)).map f++List.replicate (xs.length-(i+1)) z:=by
 rw[List.set_append,if_neg (by simp;omega)];obtain⟨m,hm⟩:∃m,xs.length-i=m+1:=⟨xs.length-i-1,by omega⟩;rw[hm,List.replicate_succ,show i-((xs.take i).map f).length=0 from by simp;omega,List.set_cons_zero,show xs.length-(i+1)=m from by omega,List.take_succ_eq_append_getElem hi,List.map_append,List.append_assoc]
 rfl
theorem te {α β:Type}(L:Nat→List β→Int→Option (List β)) (xs:List α) (f:α→β) (z:β)
  (h1:∀ys:List β,Ev (fun k=>L k ys (xs.length:Nat)) ys)
  (h2:∀(i:Nat) (hi:i<xs.length) (ys:List β),ys.length=xs.length→∀R,Ev (fun k=>L k (ys.set i (f xs[i])) ((i+1:Nat):Int)) R→Ev (fun k=>L k ys (i:Nat)) R):
  Ev (fun k=>L k (List.replicate xs.length z) 0) (xs.map f):=by
 have key:∀n i:Nat,xs.length-i=n→i≤xs.length→Ev (fun k=>L k ((xs.take i).map f++List.replicate (xs.length-i) z) (i:Nat)) (xs.map f):=by
  intro n
  induction n with
  |zero=>
   intro i hn hi
   obtain rfl:i=xs.length:=by omega
   simpa using h1 (xs.map f)
  |succ n ih=>
   intro i hn hi;refine h2 i (by omega) _ (by simp;omega) _ ?_;rw[ui xs f z i (by omega)];exact ih (i+1) (by omega) (by omega)
 simpa using key xs.length 0 (by omega) (by omega)
theorem tf {γ:Type}(L:Nat→Int→Option γ) (n:Nat) (R:γ) (h1:Ev (fun k=>L k (n:Nat)) R) (h2:∀i:Nat,i<n→Ev (fun k=>L k ((i+1:Nat):Int)) R→Ev (fun k=>L k (i:Nat)) R):Ev (fun k=>L k 0) R:=by
 have key:∀m i:Nat,n-i=m→i≤n→Ev (fun k=>L k (i:Nat)) R:=by
  intro m
  induction m with
  |zero=>
   intro i hm hi
   obtain rfl:i=n:=by omega
   exact h1
  |succ m ih=>
   intro i hm hi;exact h2 i (by omega) (ih (i+1) (by omega) (by omega))
 simpa using key n 0 (by omega) (by omega)
theorem wE {α γ:Type}(L:Nat→Int→Option γ) (xs:List α) (F:List α→γ) (h1:Ev (fun k=>L k (xs.length:Nat)) (F []))
  (h2:∀(i:Nat) (hi:i<xs.length),Ev (fun k=>L k ((i+1:Nat):Int)) (F (xs.drop (i+1)))→Ev (fun k=>L k (i:Nat)) (F (xs[i]::xs.drop (i+1)))):Ev (fun k=>L k 0) (F xs):=by
 have key:∀m i:Nat,xs.length-i=m→i≤xs.length→Ev (fun k=>L k (i:Nat)) (F (xs.drop i)):=by
  intro m
  induction m with
  |zero=>
   intro i hm hi
   obtain rfl:i=xs.length:=by omega
   rw[List.drop_length];exact h1
  |succ m ih=>
   intro i hm hi;rw[List.drop_eq_getElem_cons (by omega)];exact h2 i (by omega) (ih (i+1) (by omega) (by omega))
 simpa using key xs.length 0 (by omega) (by omega)
theorem getD_at {α:Type}(xs:List α) (z:α) (i:Nat) (hi:i<xs.length):xs.getD ((i:Nat):Int).toNat z=xs[i]:=by
 simp[List.getD_eq_getElem?_getD,List.getElem?_eq_getElem hi]
theorem ru {γ:Type}(L:Nat→Int→Int→Option γ) (n:Nat) (I:Nat→Int→Prop) (Z:γ→Prop) (h1:∀a,I n a→∃R,Ev (fun k=>L k a (n:Nat)) R∧Z R)
  (h2:∀(i:Nat) (a:Int),i<n→I i a→(∃R,Ev (fun k=>L k a (i:Nat)) R∧Z R)∨∃b,I (i+1) b∧∀R,Ev (fun k=>L k b ((i+1:Nat):Int)) R→Ev (fun k=>L k a (i:Nat)) R) (a:Int) (ha:I 0 a):∃R,Ev (fun k=>L k a 0) R∧Z R:=by
 have key:∀m i:Nat,n-i=m→i≤n→∀a,I i a→∃R,Ev (fun k=>L k a (i:Nat)) R∧Z R:=by
  intro m
  induction m with
  |zero=>
   intro i hm hi a ha
   obtain rfl:i=n:=by omega
   exact h1 a ha
  |succ m ih=>
   intro i hm hi a ha;rcases h2 i a (by omega) ha with h|⟨b,hb,h⟩
   ·exact h
   ·obtain⟨R,hR,hZ⟩:=ih (i+1) (by omega) (by omega) b hb;exact⟨R,h R hR,hZ⟩
 simpa using key n 0 (by omega) (by omega) a ha
end Go.Proofs.YtlecajlnjmbilaaGreatDoor.Q
namespace Go.Proofs.YtlecajlnjmbilaaGreatDoor.Q
open Go.RowKit Go.Proofs.YtlecajlnjmbilaaGreatDoor.P Go.Proofs.ae.au Go.Proofs.ae.ba Go.Proofs.ae.bg
def marks (n:Nat) (k:Int):List Int:=(List.range n).map fun(i:Nat)=>(k+(i:Int))%256
theorem fI (n:Nat) (k:Int):(marks n k).length=n:=by simp[marks]
theorem abj (n:Nat) (k:Int) (i:Nat) (h:i<n):rd (marks n k) i=(k+i)%256:=by
 simp[Go.Proofs.ae.au.rd,marks,h]
theorem abk (xs:List Int) (k:Int) (i:Nat) (h:i<xs.length):(marks i k++xs.drop i).set i ((k+i)%256)=marks (i+1) k++xs.drop (i+1):=by
 rw[List.set_append,if_neg (by rw[fI];omega),fI,Nat.sub_self,List.drop_eq_getElem_cons h,List.set_cons_zero];simp[marks,List.range_succ]
theorem xn (xs:List Int) (k0:Int) (hk:0≤k0) (hk1:k0+xs.length≤9223372036854775807) (n:Nat):∀(i:Nat),i≤xs.length→xs.length-i=n→
  Ev (fun k=>cI.l0 k (marks i k0++xs.drop i) (k0+i) i) (k0+xs.length,marks xs.length k0):=by
 induction n with
 |zero=>
  intro i hi hn
  apply aV
  simp only[cI.l0]
  obtain rfl:i=xs.length:=by omega
  refine dv (by simp[fI]) (eP (Ev.now _) ?_);simp
 |succ n ih=>
  intro i hi hn;have ih:=ih (i+1) (by omega) (by omega);rw[show((i+1:Nat):Int)=(i:Int)+1 from by omega]at ih
  apply aV
  simp only[cI.l0];refine bs (by simp[fI];omega) (bs (by omega) ?_);rw[Int.toNat_natCast,abk xs k0 i (by omega),kT (n:=k0+(i:Int)+1) (by omega) (by omega),kT (n:=(i:Int)+1) (by omega) (by omega),Int.add_assoc];exact ih
theorem pw (xs:List Int) (k0:Int) (hk:0≤k0) (hk1:k0+xs.length≤9223372036854775807):Ev (fun k=>cI.f k xs k0) (k0+xs.length,marks xs.length k0):=by
 have h:=xn xs k0 hk hk1 xs.length 0 (by omega) (by omega)
 simpa [cI.f,marks]using h
theorem xo (m:Nat) (k0:Int) (hk:0≤k0) (hk1:k0+m≤9223372036854775807) (n:Nat):∀(i:Nat),i≤m→m-i=n→
  Ev (fun k=>db.l0 k (marks m k0) (k0+i) i) (k0+m):=by
 induction n with
 |zero=>
  intro i hi hn
  apply aV
  simp only[db.l0]
  obtain rfl:i=m:=by omega
  exact dv (by simp[fI]) (Ev.now _)
 |succ n ih=>
  intro i hi hn;have ih:=ih (i+1) (by omega) (by omega);rw[show((i+1:Nat):Int)=(i:Int)+1 from by omega]at ih
  apply aV
  simp only[db.l0];refine bs (by simp[fI];omega) (bs (by omega) (bs (abj m k0 i (by omega)) ?_));rw[kT (n:=k0+(i:Int)+1) (by omega) (by omega),kT (n:=(i:Int)+1) (by omega) (by omega),Int.add_assoc];exact ih
theorem tg (m:Nat) (k0:Int) (hk:0≤k0) (hk1:k0+m≤9223372036854775807):Ev (fun k=>db.f k (marks m k0) k0) (k0+m):=by
 have h:=xo m k0 hk hk1 m 0 (by omega) (by omega)
 simpa [db.f]using h
end Go.Proofs.YtlecajlnjmbilaaGreatDoor.Q
namespace Go.Proofs.YtlecajlnjmbilaaGreatDoor.Q
open Go.RowKit Go.Proofs.YtlecajlnjmbilaaGreatDoor.P Go.Proofs.ae.au Go.Proofs.ae.ba Go.Proofs.ae.bg
def acd (x:jz):eb:=⟨x.f0,x.f1⟩
def wF (x:ka):eh:=⟨x.f0,x.f1⟩
theorem my (i:Nat) (n:Nat) (hi:i<n) (hn:n≤9223372036854775807):wrap64 ((i:Int)+1)=((i+1:Nat):Int):=by
 rw[kT (by omega) (by omega)];omega
theorem xp (l:List jz) (hl:l.length≤11728124029610):Ev (fun k=>ej.f k l) (l.map acd):=by
 unfold ej.f;refine bs (by omega) (bs (by omega) ?_);rw[Int.toNat_natCast];refine te (fun k ys i=>ej.l0 k l ys i) l acd _ (fun ys=> ?_) (fun i hi ys hy R h=> ?_)
 ·apply aV
  simp only[ej.l0];exact dv (by omega) (Ev.now _)
 ·apply aV
  simp only[ej.l0,kS.f,Option.bind_some];refine bs (by omega) (bs (by omega) (bs (by omega) ?_));rw[my i l.length hi (by omega),Int.toNat_natCast];simp only[hJ,getD_at l _ i hi];exact h
theorem vD (l:List ka) (hl:l.length≤8796093022208):Ev (fun k=>dq.f k l) (l.map wF):=by
 unfold dq.f;refine bs (by omega) (bs (by omega) ?_);rw[Int.toNat_natCast];refine te (fun k ys i=>dq.l0 k l ys i) l wF _ (fun ys=> ?_) (fun i hi ys hy R h=> ?_)
 ·apply aV
  simp only[dq.l0];exact dv (by omega) (Ev.now _)
 ·apply aV
  simp only[dq.l0,kv.f,Option.bind_some];refine bs (by omega) (bs (by omega) (bs (by omega) ?_));rw[my i l.length hi (by omega),Int.toNat_natCast];simp only[gp,getD_at l _ i hi];exact h
theorem vE (a b c:Int) (d:List Int) (e:List jz) (t:List ka) (hd:d.length≤1048576) (he:e.length≤1048576) (ht:t.length≤1048576):
  Ev (fun k=>iZ.f k a b c d e t) (a,b,c,d,e.map acd,t.map wF):=by
 unfold iZ.f;exact Ev.bind (rn d (by omega)) (Ev.bind (xp e (by omega)) (Ev.bind (vD t (by omega)) (Ev.now _)))
theorem uj (l:List eb) (hl:l.length≤9223372036854775807):Ev (fun k=>cC.f k l l) true:=by
 unfold cC.f;refine bs rfl (tf (fun k i=>cC.l0 k l l i) l.length true ?_ (fun i hi h=> ?_))
 ·apply aV
  simp only[cC.l0];exact dv (by omega) (Ev.now _)
 ·apply aV
  simp only[cC.l0,kt.f,if_true,Option.bind_some];refine bs (by omega) (bs (by omega) (bs (by omega) ?_));rw[my i l.length hi hl];exact h
theorem th (l:List eh) (hl:l.length≤9223372036854775807):Ev (fun k=>cp.f k l l) true:=by
 unfold cp.f;refine bs rfl (tf (fun k i=>cp.l0 k l l i) l.length true ?_ (fun i hi h=> ?_))
 ·apply aV
  simp only[cp.l0];exact dv (by omega) (Ev.now _)
 ·apply aV
  simp only[cp.l0,jn.f,if_true,Option.bind_some];refine bs (by omega) (bs (by omega) (bs (by omega) ?_));rw[my i l.length hi hl];exact h
theorem ti (a b c:Int) (d:List Int) (e:List eb) (t:List eh) (hd:d.length≤9223372036854775807) (he:e.length≤9223372036854775807) (ht:t.length≤9223372036854775807):
  Ev (fun k=>ia.f k a b c d e t a b c d e t) true:=by
 unfold ia.f;refine bs rfl (bs rfl (bs rfl (Ev.bind (ri d d hd) (bs (by simp) (Ev.bind (uj e he) (bs rfl (Ev.bind (th t ht) (bs rfl (Ev.now _)))))))))
theorem vF (d:List Int) (n:Int) (h0:0≤n) (h1:n≤1048576) (hd:d.length≤9223372036854775807):∃R,fG.f d n=some R∧(0≤R→R=n-d.length)∧R≤n:=by
 unfold fG.f;rw[kT (by omega) (by omega)]
 by_cases h:n-(d.length:Int)<0
 ·rw[if_pos h];exact⟨_,rfl,fun h=>by omega,by omega⟩
 ·rw[if_neg h];exact⟨_,rfl,fun _=>rfl,by omega⟩
def wG (l:List jz):Nat:=(l.map fun e=>e.f0.size).sum
def tj (l:List ka):Nat:=(l.map fun e=>e.f0.size+e.f1.size).sum
theorem rv {α:Type}(f:α→Nat) (l:List α) (i:Nat) (hi:i<l.length):((l.take (i+1)).map f).sum=((l.take i).map f).sum+f l[i]:=by
 rw[List.take_succ_eq_append_getElem hi,List.map_append,List.sum_append];simp
theorem xq (l:List jz) (n:Int) (h0:0≤n) (h1:n≤1048576) (hl:l.length≤9223372036854775807) (hg:∀e∈l,e.f0.size≤9223372036854775807):
  ∃R,Ev (fun k=>ed.f k l n) R∧(0≤R→R=n-l.length-wG l)∧R≤n:=by
 unfold ed.f;rw[kT (by omega) (by omega)]
 by_cases h:n-(l.length:Int)<0
 ·exact⟨-1,bs h (Ev.now _),fun h=>by omega,by omega⟩
 ·obtain⟨R,hR,hZ⟩:=ru (fun k a i=>ed.l0 k l a i) l.length (fun i a=>0≤a∧a=n-l.length-((l.take i).map fun e=>e.f0.size).sum) (fun R=>(0≤R→R=n-l.length-wG l)∧R≤n)
   (fun a ha=>⟨a,by
    apply aV
    simp only[ed.l0]
    exact dv (by omega) (Ev.now _),fun _=>by rw[ha.2,List.take_length];rfl,by omega⟩)
   (fun i a hi ha=>by
    have hm:=hg l[i] (List.getElem_mem hi);have hs:=rv (fun e:jz=>e.f0.size) l i hi
    by_cases hlt:a-(l[i].f0.size:Int)<0
    ·refine .inl ⟨-1,?_,fun h=>by omega,by omega⟩
     apply aV
     simp only[ed.l0,jo.f,hJ,getD_at l _ i hi];rw[kT (n:=a-(l[i].f0.size:Int)) (by omega) (by omega),if_pos hlt];simp only[Option.bind_some];exact bs (by omega) (bs (by omega) (bs (by omega) (Ev.now _)))
    ·refine .inr ⟨a-(l[i].f0.size:Int),⟨by omega,by rw[hs];omega⟩,fun R h=> ?_⟩
     apply aV
     simp only[ed.l0,jo.f,hJ,getD_at l _ i hi];rw[kT (n:=a-(l[i].f0.size:Int)) (by omega) (by omega),if_neg hlt];simp only[Option.bind_some];refine bs (by omega) (bs (by omega) (dv (by omega) ?_));rw[my i l.length hi hl]
     exact h) (n-l.length) ⟨by omega,by simp⟩
  exact⟨R,dv h hR,hZ⟩
theorem vG (l:List ka) (n:Int) (h0:0≤n) (h1:n≤1048576) (hl:l.length≤9223372036854775807) (hg:∀e∈l,e.f0.size≤9223372036854775807∧e.f1.size≤9223372036854775807):
  ∃R,Ev (fun k=>df.f k l n) R∧(0≤R→R=n-l.length-tj l)∧R≤n:=by
 unfold df.f;rw[kT (by omega) (by omega)]
 by_cases h:n-(l.length:Int)<0
 ·exact⟨-1,bs h (Ev.now _),fun h=>by omega,by omega⟩
 ·obtain⟨R,hR,hZ⟩:=ru (fun k a i=>df.l0 k l a i) l.length (fun i a=>0≤a∧a=n-l.length-((l.take i).map fun e=>e.f0.size+e.f1.size).sum) (fun R=>(0≤R→R=n-l.length-tj l)∧R≤n)
   (fun a ha=>⟨a,by
    apply aV
    simp only[df.l0]
    exact dv (by omega) (Ev.now _),fun _=>by rw[ha.2,List.take_length];rfl,by omega⟩)
   (fun i a hi ha=>by
    have hm:=hg l[i] (List.getElem_mem hi);have hs:=rv (fun e:ka=>e.f0.size+e.f1.size) l i hi
    by_cases hlt:a-(l[i].f0.size:Int)<0
    ·refine .inl ⟨-1,?_,fun h=>by omega,by omega⟩
     apply aV
     simp only[df.l0,hO.f,gp,getD_at l _ i hi];rw[kT (n:=a-(l[i].f0.size:Int)) (by omega) (by omega),if_pos hlt];simp only[Option.bind_some];exact bs (by omega) (bs (by omega) (bs (by omega) (Ev.now _)))
    ·by_cases hlt2:a-(l[i].f0.size:Int)-(l[i].f1.size:Int)<0
     ·refine .inl ⟨-1,?_,fun h=>by omega,by omega⟩
      apply aV
      simp only[df.l0,hO.f,gp,getD_at l _ i hi];rw[kT (n:=a-(l[i].f0.size:Int)) (by omega) (by omega),if_neg hlt,kT (n:=a-(l[i].f0.size:Int)-(l[i].f1.size:Int)) (by omega) (by omega),if_pos hlt2];simp only[Option.bind_some];exact bs (by omega) (bs (by omega) (bs (by omega) (Ev.now _)))
     ·refine .inr ⟨a-(l[i].f0.size:Int)-(l[i].f1.size:Int),⟨by omega,by rw[hs];omega⟩,fun R h=> ?_⟩
      apply aV
      simp only[df.l0,hO.f,gp,getD_at l _ i hi];rw[kT (n:=a-(l[i].f0.size:Int)) (by omega) (by omega),if_neg hlt,kT (n:=a-(l[i].f0.size:Int)-(l[i].f1.size:Int)) (by omega) (by omega),if_neg hlt2];simp only[Option.bind_some];refine bs (by omega) (bs (by omega) (dv (by omega) ?_));rw[my i l.length hi hl]
      exact h) (n-l.length) ⟨by omega,by simp⟩
  exact⟨R,dv h hR,hZ⟩
def px (d:List Int) (e:List jz) (t:List ka):Nat:=d.length+e.length+wG e+t.length+tj t
theorem vH (a b c:Int) (d:List Int) (e:List jz) (t:List ka) (n:Int) (h0:0≤n) (h1:n≤1048576) (hd:d.length≤9223372036854775807) (he:e.length≤9223372036854775807) (ht:t.length≤9223372036854775807)
  (ge:∀x∈e,x.f0.size≤9223372036854775807) (gt:∀x∈t,x.f0.size≤9223372036854775807∧x.f1.size≤9223372036854775807):
  ∃R,Ev (fun k=>ib.f k a b c d e t n) R∧(0≤R→R=n-px d e t)∧R≤n:=by
 unfold ib.f;obtain⟨R1,e1,z1,l1⟩:=vF d n h0 h1 hd;simp only[e1,Option.bind_some]
 by_cases c1:R1<0
 ·exact⟨-1,bs c1 (Ev.now _),fun h=>by omega,by omega⟩
 obtain⟨R2,e2,z2,l2⟩:=xq e R1 (by omega) (by omega) he ge
 by_cases c2:R2<0
 ·exact⟨-1,dv c1 (Ev.bind e2 (bs c2 (Ev.now _))),fun h=>by omega,by omega⟩
 obtain⟨R3,e3,z3,l3⟩:=vG t R2 (by omega) (by omega) ht gt
 by_cases c3:R3<0
 ·exact⟨-1,dv c1 (Ev.bind e2 (dv c2 (Ev.bind e3 (bs c3 (Ev.now _))))),fun h=>by omega,by omega⟩
 ·refine⟨R3,dv c1 (Ev.bind e2 (dv c2 (Ev.bind e3 (dv c3 (Ev.now _))))),fun h=> ?_,by omega⟩;have:=z1 (by omega);have:=z2 (by omega);have:=z3 (by omega);unfold px
  omega
end Go.Proofs.YtlecajlnjmbilaaGreatDoor.Q
namespace Go.Proofs.YtlecajlnjmbilaaGreatDoor.Q
open Go.RowKit Go.Proofs.YtlecajlnjmbilaaGreatDoor.P Go.Proofs.ae.au Go.Proofs.ae.ba Go.Proofs.ae.bg
theorem down {n:Nat}{P:Nat→Prop}(h1:P n) (h2:∀i,i<n→P (i+1)→P i):P 0:=by
 have key:∀m i:Nat,n-i=m→i≤n→P i:=by
  intro m
  induction m with
  |zero=>
   intro i hm hi
   obtain rfl:i=n:=by omega
   exact h1
  |succ m ih=>intro i hm hi;exact h2 i (by omega) (ih (i+1) (by omega) (by omega))
 exact key n 0 (by omega) (by omega)
def jt (x:mo):bh:=⟨x.f0,x.f1,x.f2,x.f3,x.f4.map acd,x.f5.map wF⟩
def adw (x:mo):Prop:=x.f3.length≤1048576∧x.f4.length≤1048576∧x.f5.length≤1048576
theorem uk (l:List mo) (hl:l.length≤1048576) (hb:∀x∈l,adw x):Ev (fun k=>cY.f k l) (l.map jt):=by
 unfold cY.f;refine bs (by omega) (bs (by omega) ?_);rw[Int.toNat_natCast];refine te (fun k ys i=>cY.l0 k l ys i) l jt _ (fun ys=> ?_) (fun i hi ys hy R h=> ?_)
 ·apply aV
  simp only[cY.l0];exact dv (by omega) (Ev.now _)
 ·have hB:=hb l[i] (List.getElem_mem hi);have ht:=vE l[i].f0 l[i].f1 l[i].f2 l[i].f3 l[i].f4 l[i].f5 hB.1 hB.2.1 hB.2.2
  apply aV
  simp only[cY.l0,cH,getD_at l _ i hi];refine bs (by omega) (bs (by omega) (Ev.bind ht (bs (by omega) ?_)));rw[my i l.length hi (by omega),Int.toNat_natCast];exact h
theorem abd (l:List mo) (n:Int) (hl:l.length≤1048576) (hb:∀x∈l,adw x):Ev (fun k=>ig.f k l n) (l.map jt,n):=by
 unfold ig.f;exact Ev.bind (uk l hl hb) (Ev.now _)
theorem rV (l:List bh) (hl:l.length≤9223372036854775807) (hb:∀x∈l,x.f3.length≤9223372036854775807∧x.f4.length≤9223372036854775807∧x.f5.length≤9223372036854775807):Ev (fun k=>cf.f k l l) true:=by
 unfold cf.f;refine bs rfl ?_;refine tf (fun k i=>cf.l0 k l l i) l.length true ?_ (fun i hi h=> ?_)
 ·apply aV
  simp only[cf.l0];exact dv (by omega) (Ev.now _)
 ·have hB:=hb l[i] (List.getElem_mem hi)
  apply aV
  simp only[cf.l0,af,getD_at l _ i hi];refine bs (by omega) (bs (by omega) (bs (by omega) (Ev.bind (ti _ _ _ _ _ _ hB.1 hB.2.1 hB.2.2) (bs rfl ?_))));rw[my i l.length hi hl];exact h
theorem rj (l:List bh) (n:Int) (hl:l.length≤9223372036854775807) (hb:∀x∈l,x.f3.length≤9223372036854775807∧x.f4.length≤9223372036854775807∧x.f5.length≤9223372036854775807):Ev (fun k=>fv.f k l n l n) true:=by
 unfold fv.f;exact Ev.bind (rV l hl hb) (bs rfl (bs rfl (Ev.now _)))
def adx (x:mo):Prop:=x.f3.length≤9223372036854775807∧x.f4.length≤9223372036854775807∧x.f5.length≤9223372036854775807∧(∀e∈x.f4,e.f0.size≤9223372036854775807)∧(∀e∈x.f5,e.f0.size≤9223372036854775807∧e.f1.size≤9223372036854775807)
def py (x:mo):Nat:=px x.f3 x.f4 x.f5
def qn (l:List mo):Nat:=l.length+(l.map py).sum
theorem um (l:List mo) (n:Int) (h0:0≤n) (h1:n≤1048576) (hl:l.length≤9223372036854775807) (hg:∀x∈l,adx x):
  ∃R,Ev (fun k=>cZ.f k l n) R∧(0≤R→R=n-qn l)∧R≤n:=by
 unfold cZ.f;rw[kT (by omega) (by omega)]
 by_cases h:n-(l.length:Int)<0
 ·exact⟨-1,bs h (Ev.now _),fun h=>by omega,by omega⟩
 ·obtain⟨R,hR,hZ⟩:=ru (fun k a i=>cZ.l0 k l a i) l.length (fun i a=>0≤a∧a≤n∧a=n-l.length-((l.take i).map py).sum) (fun R=>(0≤R→R=n-qn l)∧R≤n)
   (fun a ha=>⟨a,by
    apply aV
    simp only[cZ.l0]
    exact dv (by omega) (Ev.now _),fun _=>by rw[ha.2.2,List.take_length];unfold qn;omega,by omega⟩)
   (fun i a hi ha=>by
    obtain⟨m1,m2,m3,m4,m5⟩:=hg l[i] (List.getElem_mem hi);have hs:=rv py l i hi;obtain⟨R1,e1,z1,l1⟩:=vH l[i].f0 l[i].f1 l[i].f2 l[i].f3 l[i].f4 l[i].f5 a ha.1 (by omega) m1 m2 m3 m4 m5
    by_cases hlt:R1<0
    ·refine .inl ⟨-1,?_,fun h=>by omega,by omega⟩
     apply aV
     simp only[cZ.l0,cH,getD_at l _ i hi];exact bs (by omega) (bs (by omega) (Ev.bind e1 (bs hlt (Ev.now _))))
    ·have z1:=z1 (by omega);refine .inr ⟨R1,⟨by omega,by omega,by rw[hs];unfold py at*;omega⟩,fun R h=> ?_⟩
     apply aV
     simp only[cZ.l0,cH,getD_at l _ i hi];refine bs (by omega) (bs (by omega) (Ev.bind e1 (dv hlt ?_)));rw[my i l.length hi hl]
     exact h) (n-l.length) ⟨by omega,by omega,by simp⟩
  exact⟨R,dv h hR,hZ⟩
theorem abb (l:List mo) (nx n:Int) (h0:0≤n) (h1:n≤1048576) (hl:l.length≤9223372036854775807) (hg:∀x∈l,adx x):
  ∃R,Ev (fun k=>jh.f k l nx n) R∧(0≤R→R=n-qn l)∧R≤n:=by
 obtain⟨R,e,z,h⟩:=um l n h0 h1 hl hg;unfold jh.f
 by_cases c:R<0
 ·exact⟨-1,Ev.bind e (bs c (Ev.now _)),fun h=>by omega,by omega⟩
 ·exact⟨R,Ev.bind e (dv c (Ev.now _)),z,h⟩
theorem oW {α:Type}(f:α→Nat) (l:List α) (x:α) (h:x∈l):f x≤(l.map f).sum:=by
 induction l with
 |nil=>cases h
 |cons y l ih=>
  rw[List.map_cons,List.sum_cons];rcases List.mem_cons.1 h with rfl|h
  ·omega
  ·have:=ih h;omega
structure ace (x:mo):Prop where
 d:x.f3.length≤1048576
 e:x.f4.length≤1048576
 t:x.f5.length≤1048576
 en:∀y∈x.f4,y.f0.size≤1048576
 tn:∀y∈x.f5,y.f0.size≤1048576∧y.f1.size≤1048576
theorem acf (x:mo) (h:py x≤1048576):ace x:=by
 unfold py px at h;refine⟨by omega,by omega,by omega,fun y hy=> ?_,fun y hy=> ?_⟩
 ·have:=oW (fun e:jz=>e.f0.size) x.f4 y hy;unfold wG at h
  omega
 ·have:=oW (fun e:ka=>e.f0.size+e.f1.size) x.f5 y hy;unfold tj at h
  omega
theorem xm (l:List mo) (h:qn l≤1048576):l.length≤1048576∧∀x∈l,ace x:=by
 unfold qn at h;refine⟨by omega,fun x hx=>acf x ?_⟩;have:=oW py l x hx
 omega
end Go.Proofs.YtlecajlnjmbilaaGreatDoor.Q
namespace Go.Proofs.YtlecajlnjmbilaaGreatDoor.Q
open Go.RowKit Go.Proofs.YtlecajlnjmbilaaGreatDoor.P Go.Proofs.YtlecajlnjmbilaaGreatDoor.Kinds Go.Proofs.ae.au Go.Proofs.ae.ba Go.Proofs.ae.bg
theorem abc (l:List mo) (h:∀x∈l,g92 x):∀x∈l,adx x:=by
 intro x hx;obtain⟨_,_,_,⟨hd,_⟩,⟨he,ge⟩,⟨ht,gt⟩⟩:=h x hx;have hM:maxLen=9223372036854775807:=rfl;simp only[hM]at*;exact⟨hd,he,ht,fun e h=>(ge e h).1,fun e h=>gt e h⟩
theorem ab_ (l:List mo) (h:∀x∈l,ace x):∀x∈l,adw x:=fun x hx=>⟨(h x hx).d,(h x hx).e,(h x hx).t⟩
end Go.Proofs.YtlecajlnjmbilaaGreatDoor.Q
namespace Go.Proofs.YtlecajlnjmbilaaGreatDoor.Q
open Go.RowKit Go.Proofs.YtlecajlnjmbilaaGreatDoor.P Go.Proofs.ae.au Go.Proofs.ae.ba Go.Proofs.ae.bg
def ad8 (a b:ByteArray):Bool:=Op.bytesLess a.toList b.toList
def upTo (p:Option ByteArray) (s:ByteArray):Bool:=match p with|none=>true|some q=>ad8 q s
def nz:Option ByteArray→List eb→Bool
 |_,[]=>true
 |p,e::l=>i_ e.f0&&decide (2≤e.f1∧e.f1≤1000)&&upTo p e.f0&&nz (some e.f0) l
def mj:Option ByteArray→List eh→Bool
 |_,[]=>true
 |p,e::l=>i_ e.f0&&decide (1≤e.f1.size∧e.f1.size≤16)&&upTo p e.f0&&mj (some e.f0) l
def je (l:List eb) (i:Nat):Option ByteArray:=if i=0 then none else some (al l ((i:Int)-1)).f0
def ie (l:List eh) (i:Nat):Option ByteArray:=if i=0 then none else some (an l ((i:Int)-1)).f0
theorem pz (l:List eb) (i:Nat) (h:i<l.length):je l (i+1)=some l[i].f0:=by
 unfold je;rw[if_neg (by omega),show(((i+1:Nat):Int)-1)=(i:Int)from by omega,al,getD_at l _ i h]
theorem oA (l:List eh) (i:Nat) (h:i<l.length):ie l (i+1)=some l[i].f0:=by
 unfold ie;rw[if_neg (by omega),show(((i+1:Nat):Int)-1)=(i:Int)from by omega,an,getD_at l _ i h]
def pV (l:List eb):Bool:=nz none l&&decide (l.length≤10)
def np (l:List eh):Bool:=mj none l&&decide (l.length≤4)
theorem xr (l:List eb) (hl:l.length≤1048576) (hn:∀e∈l,e.f0.size≤1048576):Ev (fun k=>du.f k l) (pV l):=by
 have key:Ev (fun k=>du.l0 k l (0:Nat)) (nz (je l 0) (l.drop 0)&&decide (l.length≤10)):=by
  refine down (n:=l.length) (P:=fun i=>Ev (fun k=>du.l0 k l (i:Nat)) (nz (je l i) (l.drop i)&&decide (l.length≤10))) ?_ (fun i hi h=> ?_)
  ·rw[List.drop_length]
   apply aV
   simp only[du.l0,nz];refine dv (by omega) (eP (Ev.now _) ?_);simp;omega
  ·rw[List.drop_eq_getElem_cons hi];rw[pz l i hi]at h
   apply aV
   simp only[du.l0];refine bs (by omega) ?_;have hname:=om l[i].f0 (by have:=hn _ (List.getElem_mem hi);omega);have hrd:al l (i:Int)=l[i]:=getD_at l _ i hi;rw[hrd,my i l.length hi (by omega)];simp only[nz,nn,Option.bind_some];refine bs (by omega) (Ev.bind hname ?_)
   by_cases c1:i_ l[i].f0=true
   ·refine bs c1 ?_
    by_cases c2:2≤l[i].f1∧l[i].f1≤1000
    ·refine bs (by simp[c2]) ?_
     by_cases c3:i=0
     ·subst c3;refine dv (by omega) (eP h ?_);simp[c1,c2,je,upTo]
     ·rw[kT (n:=(i:Int)-1) (by omega) (by omega)]
      have hu:upTo (je l i) l[i].f0=Op.bytesLess (al l ((i:Int)-1)).f0.toList l[i].f0.toList:=by unfold je;rw[if_neg c3];rfl
      refine bs (by omega) (bs (by omega) (bs (by omega) ?_))
      by_cases c4:Op.bytesLess (al l ((i:Int)-1)).f0.toList l[i].f0.toList=true
      ·refine bs c4 (eP h ?_);simp[c1,c2,hu,c4]
      ·refine dv c4 (eP (Ev.now _) ?_);simp[hu,c4]
    ·refine dv (by simp;omega) (eP (Ev.now _) ?_);have:decide (2≤l[i].f1∧l[i].f1≤1000)=false:=decide_eq_false c2;simp[this]
   ·refine dv c1 (eP (Ev.now _) ?_);simp[c1]
 simpa [du.f,pV,je]using key
theorem vI (l:List eh) (hl:l.length≤1048576) (hn:∀e∈l,e.f0.size≤1048576):Ev (fun k=>de.f k l) (np l):=by
 have key:Ev (fun k=>de.l0 k l (0:Nat)) (mj (ie l 0) (l.drop 0)&&decide (l.length≤4)):=by
  refine down (n:=l.length) (P:=fun i=>Ev (fun k=>de.l0 k l (i:Nat)) (mj (ie l i) (l.drop i)&&decide (l.length≤4))) ?_ (fun i hi h=> ?_)
  ·rw[List.drop_length]
   apply aV
   simp only[de.l0,mj];refine dv (by omega) (eP (Ev.now _) ?_);simp;omega
  ·rw[List.drop_eq_getElem_cons hi];rw[oA l i hi]at h
   apply aV
   simp only[de.l0];refine bs (by omega) ?_;have hname:=om l[i].f0 (by have:=hn _ (List.getElem_mem hi);omega);have hrd:an l (i:Int)=l[i]:=getD_at l _ i hi;rw[hrd,my i l.length hi (by omega)];simp only[mj,nn,Option.bind_some];refine bs (by omega) (Ev.bind hname ?_)
   by_cases c1:i_ l[i].f0=true
   ·refine bs c1 ?_
    by_cases c2:1≤l[i].f1.size∧l[i].f1.size≤16
    ·refine bs (by simp;omega) ?_
     by_cases c3:i=0
     ·subst c3;refine dv (by omega) (eP h ?_);simp[c1,c2,ie,upTo]
     ·rw[kT (n:=(i:Int)-1) (by omega) (by omega)]
      have hu:upTo (ie l i) l[i].f0=Op.bytesLess (an l ((i:Int)-1)).f0.toList l[i].f0.toList:=by unfold ie;rw[if_neg c3];rfl
      refine bs (by omega) (bs (by omega) (bs (by omega) ?_))
      by_cases c4:Op.bytesLess (an l ((i:Int)-1)).f0.toList l[i].f0.toList=true
      ·refine bs c4 (eP h ?_);simp[c1,c2,hu,c4]
      ·refine dv c4 (eP (Ev.now _) ?_);simp[hu,c4]
    ·refine dv (by simp;omega) (eP (Ev.now _) ?_);have:decide (1≤l[i].f1.size∧l[i].f1.size≤16)=false:=decide_eq_false c2;simp[this]
   ·refine dv c1 (eP (Ev.now _) ?_);simp[c1]
 simpa [de.f,np,ie]using key
theorem pA (a b c:Int):bl.f a b c=some (decide (b≤a∧a≤c)):=by
 unfold bl.f
 by_cases h:a≥b
 ·rw[if_pos h];simp[show b≤a from h]
 ·rw[if_neg h];simp[show¬b≤a from h]
theorem vJ (l:List eh) (hl:l.length≤1048576) (hn:∀e∈l,e.f0.size≤1048576):Ev (fun k=>cT.f k l) (np l):=by
 have key:Ev (fun k=>cT.l0 k l l (l.length:Int) (0:Nat)) (mj (ie l 0) (l.drop 0)&&decide (l.length≤4)):=by
  refine down (n:=l.length) (P:=fun i=>Ev (fun k=>cT.l0 k l l (l.length:Int) (i:Nat)) (mj (ie l i) (l.drop i)&&decide (l.length≤4))) ?_ (fun i hi h=> ?_)
  ·rw[List.drop_length]
   apply aV
   simp only[cT.l0,mj];refine dv (by omega) (eP (Ev.now _) ?_);simp;omega
  ·rw[List.drop_eq_getElem_cons hi];rw[oA l i hi]at h
   apply aV
   simp only[cT.l0];refine bs (by omega) ?_;have hname:=pU l[i].f0 (by have:=hn _ (List.getElem_mem hi);omega);have hrd:an l (i:Int)=l[i]:=getD_at l _ i hi;rw[hrd,my i l.length hi (by omega)];simp only[mj,pA,Option.bind_some];refine bs (by omega) (bs (by omega) (Ev.bind hname ?_))
   by_cases c1:i_ l[i].f0=true
   ·refine bs c1 ?_
    by_cases c2:1≤l[i].f1.size∧l[i].f1.size≤16
    ·refine bs (by simp;omega) ?_
     by_cases c3:i=0
     ·subst c3;refine dv (by omega) (eP h ?_);simp[c1,c2,ie,upTo]
     ·rw[kT (n:=(i:Int)-1) (by omega) (by omega)]
      have hu:upTo (ie l i) l[i].f0=Op.bytesLess (an l ((i:Int)-1)).f0.toList l[i].f0.toList:=by unfold ie;rw[if_neg c3];rfl
      refine bs (by omega) (bs (by omega) (bs (by omega) ?_))
      by_cases c4:Op.bytesLess (an l ((i:Int)-1)).f0.toList l[i].f0.toList=true
      ·refine bs c4 (eP h ?_);simp[c1,c2,hu,c4]
      ·refine dv c4 (eP (Ev.now _) ?_);simp[hu,c4]
    ·refine dv (by simp;omega) (eP (Ev.now _) ?_);have:decide (1≤l[i].f1.size∧l[i].f1.size≤16)=false:=decide_eq_false c2;simp[this]
   ·refine dv c1 (eP (Ev.now _) ?_);simp[c1]
 simpa [cT.f,np,ie]using key
def kindOk (b c:Int) (d:List Int) (e:List eb):Bool:=if b=1 then e.length==0 else if b=2 then d.length==0&&decide (c≤1)else false
def ix (a b c:Int) (d:List Int) (e:List eb) (t:List eh):Bool:=
 decide (1≤a∧a≤1000)&&decide (0≤c∧c≤1000)&&((c==0)==(a==1))&&decide (d.length≤100)&&pV e&&np t&&kindOk b c d e
theorem pW (b c:Int) (d:List Int) (e:List eb):(if b=1 then(some ((e.length:Int)==0))else(if b=2 then(if(d.length:Int)=0 then(some (decide (c≤1)))else(some false))else(some false)))=some (kindOk b c d e):=by
 unfold kindOk
 have h1:((e.length:Int)==0)=(e.length==0):=by rw[Bool.eq_iff_iff];simp only[beq_iff_eq];omega
 by_cases hb:b=1
 ·rw[if_pos hb,if_pos hb,h1]
 ·rw[if_neg hb,if_neg hb]
  by_cases hb2:b=2
  ·rw[if_pos hb2,if_pos hb2]
   by_cases hd:d.length=0
   ·rw[if_pos (by omega)];simp[hd]
   ·rw[if_neg (by omega)];simp[hd]
  ·rw[if_neg hb2,if_neg hb2]
theorem pX (x y:Bool):(x !=y)= !(x==y):=rfl
theorem tk (a b c:Int) (d:List Int) (e:List eb) (t:List eh) (he:e.length≤1048576) (ht:t.length≤1048576) (hen:∀x∈e,x.f0.size≤1048576) (htn:∀x∈t,x.f0.size≤1048576):
  Ev (fun k=>cK.f k a b c d e t) (ix a b c d e t):=by
 unfold cK.f;simp only[nn,Option.bind_some]
 have no:∀r:Bool,r=false→Ev (fun k=>cK.j0 k true a b c d e t) r:=by
  intro r hr
  try(apply aV;simp only[cK.j0,pW])
  exact bs (by simp) (eP (Ev.now _) hr.symm)
 by_cases c1:1≤a∧a≤1000
 ·refine bs (by simp[c1]) ?_
  by_cases c2:0≤c∧c≤1000
  ·refine bs (by simp[c2]) ?_
   by_cases c3:((c==0)==(a==1))=true
   ·refine dv (by rw[pX,c3];simp) ?_
    by_cases c4:d.length≤100
    ·refine dv (by omega) (Ev.bind (xr e he hen) ?_)
     by_cases c5:pV e=true
     ·refine bs c5 (Ev.bind (vI t ht htn) ?_)
      try(apply aV;simp only[cK.j0,pW])
      by_cases c6:np t=true
      ·refine dv (by simp[c6]) ?_;refine eP (Ev.now _) ?_;unfold ix;simp only[c1,c2,c3,c4,c5,c6,and_self,decide_true,Bool.true_and]
      ·refine bs (by simp[c6]) (eP (Ev.now _) ?_);simp[ix,c6]
     ·exact dv c5 (no _ (by simp[ix,c5]))
    ·exact bs (by omega) (no _ (by simp[ix,c4]))
   ·refine bs (by rw[pX];simpa using c3) (no _ ?_);unfold ix;rw[Bool.not_eq_true]at c3;simp[c3]
  ·refine dv (by simp;omega) (no _ ?_);have:decide (0≤c∧c≤1000)=false:=decide_eq_false c2;simp[ix,this]
 ·refine dv (by simp;omega) (no _ ?_);have:decide (1≤a∧a≤1000)=false:=decide_eq_false c1;simp[ix,this]
theorem qB (a b c:Int) (d:List Int) (l:List eb) (t:List eh) (hl:l.length≤1048576) (hn:∀x∈l,x.f0.size≤1048576):
  Ev (fun k=>bf.l0 k l (l.length:Int) 0 a b c d l t) (nz none l&&(decide (0≤c∧c≤1000)&&((c==0)==(a==1))&&kindOk b c d l)):=by
 generalize hE:(decide (0≤c∧c≤1000)&&((c==0)==(a==1))&&kindOk b c d l)=E
 have key:Ev (fun k=>bf.l0 k l (l.length:Int) (0:Nat) a b c d l t) (nz (je l 0) (l.drop 0)&&E):=by
  refine down (n:=l.length) (P:=fun i=>Ev (fun k=>bf.l0 k l (l.length:Int) (i:Nat) a b c d l t) (nz (je l i) (l.drop i)&&E)) ?_ (fun i hi h=> ?_)
  ·rw[List.drop_length]
   apply aV
   simp only[bf.l0,nz,pA,Option.bind_some];refine dv (by omega) ?_
   have fin:∀x:Bool,(x= !(((c==0)==(a==1))&&decide (0≤c∧c≤1000)))→Ev (fun k=>bf.j2 k x a b c d l t) (true&&E):=by
    intro x hx
    try(apply aV;simp only[bf.j2,pW])
    by_cases cx:x=true
    ·refine bs cx (eP (Ev.now _) ?_);rw[cx]at hx
     have:(((c==0)==(a==1))&&decide (0≤c∧c≤1000))=false:=by
      cases hz:(((c==0)==(a==1))&&decide (0≤c∧c≤1000))with
      |false=>rfl
      |true=>rw[hz]at hx;exact absurd hx (by decide)
     rw[←hE,Bool.and_comm (decide _),this];simp
    ·refine dv cx ?_;refine eP (Ev.now _) ?_
     have:(((c==0)==(a==1))&&decide (0≤c∧c≤1000))=true:=by cases hz:(((c==0)==(a==1))&&decide (0≤c∧c≤1000))<;>simp_all
     rw[←hE,Bool.and_comm (decide _),this];simp
   by_cases c2:0≤c∧c≤1000
   ·exact bs (by simp[c2]) (fin _ (by rw[pX];simp[c2]))
   ·exact dv (by simp;omega) (fin _ (by have:decide (0≤c∧c≤1000)=false:=decide_eq_false c2;simp[this]))
  ·rw[List.drop_eq_getElem_cons hi];rw[pz l i hi]at h
   apply aV
   simp only[bf.l0];refine bs (by omega) ?_;have hname:=pU l[i].f0 (by have:=hn _ (List.getElem_mem hi);omega);have hrd:al l (i:Int)=l[i]:=getD_at l _ i hi;rw[hrd,my i l.length hi (by omega)];simp only[nz,pA,Option.bind_some];refine bs (by omega) (bs (by omega) (Ev.bind hname ?_))
   by_cases c1:i_ l[i].f0=true
   ·refine bs c1 ?_
    by_cases c2:2≤l[i].f1∧l[i].f1≤1000
    ·refine bs (by simp[c2]) ?_
     by_cases c3:i=0
     ·subst c3;refine dv (by omega) (eP h ?_);simp[c1,c2,je,upTo]
     ·rw[kT (n:=(i:Int)-1) (by omega) (by omega)]
      have hu:upTo (je l i) l[i].f0=Op.bytesLess (al l ((i:Int)-1)).f0.toList l[i].f0.toList:=by unfold je;rw[if_neg c3];rfl
      refine bs (by omega) (bs (by omega) (bs (by omega) ?_))
      by_cases c4:Op.bytesLess (al l ((i:Int)-1)).f0.toList l[i].f0.toList=true
      ·refine bs c4 (eP h ?_);simp[c1,c2,hu,c4]
      ·refine dv c4 (eP (Ev.now _) ?_);simp[hu,c4]
    ·refine dv (by simp;omega) (eP (Ev.now _) ?_);have:decide (2≤l[i].f1∧l[i].f1≤1000)=false:=decide_eq_false c2;simp[this]
   ·refine dv c1 (eP (Ev.now _) ?_);simp[c1]
 simpa [je]using key
theorem tm (a b c:Int) (d:List Int) (e:List eb) (t:List eh) (he:e.length≤1048576) (ht:t.length≤1048576) (hen:∀x∈e,x.f0.size≤1048576) (htn:∀x∈t,x.f0.size≤1048576):
  Ev (fun k=>bf.f k a b c d e t) (ix a b c d e t):=by
 unfold bf.f;simp only[pA,Option.bind_some]
 have no:∀r:Bool,r=false→Ev (fun k=>bf.j0 k true a b c d e t) r:=by
  intro r hr
  try(apply aV;simp only[bf.j0])
  exact bs (by simp) (eP (Ev.now _) hr.symm)
 by_cases c1:1≤a∧a≤1000
 ·refine bs (by simp[c1]) ?_
  by_cases c4:d.length≤100
  ·refine dv (by omega) ?_
   by_cases c5:e.length≤10
   ·refine dv (by omega) (Ev.bind (vJ t ht htn) ?_)
    try(apply aV;simp only[bf.j0])
    by_cases c6:np t=true
    ·refine dv (by simp[c6]) ?_;refine eP (qB a b c d e t he hen) ?_;unfold ix pV;simp only[c1,c4,c5,c6,and_self,decide_true,Bool.true_and,Bool.and_true]
     cases nz none e<;>cases decide (0≤c∧c≤1000)<;>cases ((c==0)==(a==1))<;>cases kindOk b c d e<;>rfl
    ·refine bs (by simp[c6]) (eP (Ev.now _) ?_);simp[ix,c6]
   ·exact bs (by omega) (no _ (by simp[ix,pV,c5]))
  ·exact bs (by omega) (no _ (by simp[ix,c4]))
 ·refine dv (by simp;omega) (no _ ?_);have:decide (1≤a∧a≤1000)=false:=decide_eq_false c1;simp[ix,this]
end Go.Proofs.YtlecajlnjmbilaaGreatDoor.Q
namespace Go.Proofs.YtlecajlnjmbilaaGreatDoor.Q
open Go.RowKit Go.Proofs.YtlecajlnjmbilaaGreatDoor.P Go.Proofs.ae.au Go.Proofs.ae.ba Go.Proofs.ae.bg
def abl (x:bh):Bool:=ix x.f0 x.f1 x.f2 x.f3 x.f4 x.f5
def above (p:Option Int) (n:Int):Bool:=match p with|none=>true|some q=>decide (q<n)
def kE (nx:Int):Option Int→List bh→Bool
 |_,[]=>true
 |p,x::l=>abl x&&decide (x.f0<nx)&&above p x.f0&&kE nx (some x.f0) l
def jf (l:List bh) (i:Nat):Option Int:=if i=0 then none else some (af l ((i:Int)-1)).f0
theorem pB (l:List bh) (i:Nat) (h:i<l.length):jf l (i+1)=some l[i].f0:=by
 unfold jf;rw[if_neg (by omega),show(((i+1:Nat):Int)-1)=(i:Int)from by omega,af,getD_at l _ i h]
structure pC (x:bh):Prop where
 d:x.f3.length≤1048576
 e:x.f4.length≤1048576
 t:x.f5.length≤1048576
 en:∀y∈x.f4,y.f0.size≤1048576
 tn:∀y∈x.f5,y.f0.size≤1048576
theorem abm (x:bh) (h:abl x=true):1≤x.f0:=by
 unfold abl ix at h;simp only[Bool.and_eq_true,decide_eq_true_eq]at h
 omega
theorem vK (nx:Int) (l:List bh):∀(q:Int) (i:Nat),1≤q→kE nx (some q) l=true→cE 1 l i= -1:=by
 induction l with
 |nil=>intros;rfl
 |cons x l ih=>
  intro q i hq h;simp only[kE,above,Bool.and_eq_true,decide_eq_true_eq]at h;rw[cE,if_neg (by omega)];exact ih x.f0 (i+1) (by omega) h.2
theorem vL (nx:Int) (x:bh) (l:List bh) (h:kE nx none (x::l)=true):cE 1 (x::l) 0=if x.f0=1 then 0 else-1:=by
 simp only[kE,Bool.and_eq_true,decide_eq_true_eq]at h;rw[cE]
 split
 ·rfl
 ·exact vK nx l x.f0 1 (abm x h.1.1.1) h.2
def nV (l:List bh):Bool:=decide ((af l 0).f0=1)&&((af l 0).f1==2)
theorem rW (l:List bh) (nx:Int) (hl:l.length≤1048576) (hs:∀x∈l,pC x) (hp:0<l.length):
  Ev (fun k=>bq.l0 k 0 l nx) (kE nx none l&&nV l):=by
 have key:Ev (fun k=>bq.l0 k (0:Nat) l nx) (kE nx (jf l 0) (l.drop 0)&&nV l):=by
  refine down (n:=l.length) (P:=fun i=>Ev (fun k=>bq.l0 k (i:Nat) l nx) (kE nx (jf l i) (l.drop i)&&nV l)) ?_ (fun i hi h=> ?_)
  ·rw[List.drop_length]
   apply aV
   simp only[bq.l0,kE];refine dv (by omega) (bs (by omega) ?_)
   by_cases c:(af l 0).f0=1
   ·exact bs c (eP (Ev.now _) (by simp[nV,c]))
   ·exact dv c (eP (Ev.now _) (by simp[nV,c]))
  ·rw[List.drop_eq_getElem_cons hi];rw[pB l i hi]at h;have hT:=hs l[i] (List.getElem_mem hi);have ho:=tk l[i].f0 l[i].f1 l[i].f2 l[i].f3 l[i].f4 l[i].f5 hT.e hT.t hT.en hT.tn;have hrd:af l (i:Int)=l[i]:=getD_at l _ i hi
   apply aV
   simp only[bq.l0,hrd];rw[my i l.length hi (by omega)];refine bs (by omega) (bs (by omega) (Ev.bind ho ?_))
   by_cases c1:abl l[i]=true
   ·refine bs c1 ?_
    by_cases c2:l[i].f0<nx
    ·refine dv (by omega) ?_
     by_cases c3:i=0
     ·subst c3;refine dv (by omega) (eP h ?_);simp[kE,c1,c2,jf,above]
     ·rw[kT (n:=(i:Int)-1) (by omega) (by omega)];refine bs (by omega) (bs (by omega) (bs (by omega) ?_))
      have hu:above (jf l i) l[i].f0=decide ((af l ((i:Int)-1)).f0<l[i].f0):=by unfold jf;rw[if_neg c3];rfl
      by_cases c4:(af l ((i:Int)-1)).f0<l[i].f0
      ·refine dv (by omega) (eP h ?_);simp[kE,c1,c2,hu,c4]
      ·refine bs (by omega) (eP (Ev.now _) ?_);simp[kE,hu,c4]
    ·refine bs (by omega) (eP (Ev.now _) ?_);simp[kE,c2]
   ·refine dv c1 (eP (Ev.now _) ?_);simp[kE,c1]
 simpa [jf]using key
theorem rX (l:List bh) (nx:Int) (hl:l.length≤1048576) (hs:∀x∈l,pC x) (E:Bool) (hE:Ev (fun k=>(cP.f k l nx 1).bind fun bt=>(if bt.2.2.2.2.2.2=true then(some (bt.2.1==2))else(some false))) E):
  Ev (fun k=>br.l0 k l (l.length:Int) 0 l nx) (kE nx none l&&E):=by
 have key:Ev (fun k=>br.l0 k l (l.length:Int) (0:Nat) l nx) (kE nx (jf l 0) (l.drop 0)&&E):=by
  refine down (n:=l.length) (P:=fun i=>Ev (fun k=>br.l0 k l (l.length:Int) (i:Nat) l nx) (kE nx (jf l i) (l.drop i)&&E)) ?_ (fun i hi h=> ?_)
  ·rw[List.drop_length]
   apply aV
   simp only[br.l0,kE];exact dv (by omega) (eP hE (by simp))
  ·rw[List.drop_eq_getElem_cons hi];rw[pB l i hi]at h;have hT:=hs l[i] (List.getElem_mem hi);have ho:=tm l[i].f0 l[i].f1 l[i].f2 l[i].f3 l[i].f4 l[i].f5 hT.e hT.t hT.en hT.tn;have hrd:af l (i:Int)=l[i]:=getD_at l _ i hi
   apply aV
   simp only[br.l0,hrd];rw[my i l.length hi (by omega)];refine bs (by omega) (bs (by omega) (bs (by omega) (Ev.bind ho ?_)))
   by_cases c1:abl l[i]=true
   ·refine bs c1 ?_
    by_cases c2:l[i].f0<nx
    ·refine dv (by omega) ?_
     by_cases c3:i=0
     ·subst c3;refine dv (by omega) (eP h ?_);simp[kE,c1,c2,jf,above]
     ·rw[kT (n:=(i:Int)-1) (by omega) (by omega)];refine bs (by omega) (bs (by omega) (bs (by omega) ?_))
      have hu:above (jf l i) l[i].f0=decide ((af l ((i:Int)-1)).f0<l[i].f0):=by unfold jf;rw[if_neg c3];rfl
      by_cases c4:(af l ((i:Int)-1)).f0<l[i].f0
      ·refine dv (by omega) (eP h ?_);simp[kE,c1,c2,hu,c4]
      ·refine bs (by omega) (eP (Ev.now _) ?_);simp[kE,hu,c4]
    ·refine bs (by omega) (eP (Ev.now _) ?_);simp[kE,c2]
   ·refine dv c1 (eP (Ev.now _) ?_);simp[kE,c1]
 simpa [jf]using key
theorem vM (x:bh) (h:pC x):er.f x.f0 x.f1 x.f2 x.f3 x.f4 x.f5=some (x.f0,x.f1,x.f2,x.f3,x.f4,x.f5):=by
 have hd:=h.d;have he:=h.e;have ht:=h.t
 have a:cy.f x.f3=some x.f3:=by unfold cy.f;simp;omega
 have b:dj.f x.f4=some x.f4:=by unfold dj.f;simp;omega
 have c:cW.f x.f5=some x.f5:=by unfold cW.f;simp;omega
 unfold er.f;rw[a,Option.bind_some,b,Option.bind_some,c,Option.bind_some]
def pD (l:List bh) (nx:Int):Bool:=decide (1≤l.length∧l.length≤30)&&decide (2≤nx∧nx≤1000)&&(kE nx none l&&nV l)
theorem tp (ino:Int) (l:List bh):∀i:Nat,cE ino l i= -1∨((i:Int)≤cE ino l i∧cE ino l i<i+l.length):=by
 induction l with
 |nil=>intro i;exact .inl rfl
 |cons x l ih=>
  intro i;rw[cE]
  split
  ·right;simp only[List.length_cons];omega
  ·rcases ih (i+1)with h|h
   ·exact .inl h
   ·right;simp only[List.length_cons];omega
def atOk (l:List bh):Bool:=if cE 1 l 0<0 then false else((af l (cE 1 l 0)).f1==2)
theorem at_one (l:List bh) (nx:Int) (hl:l.length≤1048576) (hs:∀x∈l,pC x):
  Ev (fun k=>(cP.f k l nx 1).bind fun bt=>(if bt.2.2.2.2.2.2=true then(some (bt.2.1==2))else(some false))) (atOk l):=by
 unfold cP.f ek.f atOk;rw[if_pos (by omega)];simp only[Option.bind_some]
 by_cases c:cE 1 l 0<0
 ·simp only[if_pos c,Option.bind_some];exact Ev.now _
 ·simp only[if_neg c];have hr:=tp 1 l 0;obtain⟨n,hn⟩:∃n:Nat,cE 1 l 0=n:=⟨(cE 1 l 0).toNat,by omega⟩;rw[hn]at hr c⊢
  have hlt:n<l.length:=by omega
  have hrd:af l (n:Int)=l[n]:=getD_at l _ n hlt;simp only[hrd,vM l[n] (hs _ (List.getElem_mem hlt)),Option.bind_some];rw[if_pos (by omega),if_pos (by omega)];simp only[Option.bind_some,if_true];exact Ev.now _
theorem acg (nx:Int) (l:List bh) (hp:0<l.length):(kE nx none l&&atOk l)=(kE nx none l&&nV l):=by
 cases h:kE nx none l with
 |false=>rfl
 |true=>
  cases l with
  |nil=>simp at hp
  |cons x l=>
   have hh:=vL nx x l h;simp only[Bool.true_and,atOk,nV,hh];have h0:af (x::l) 0=x:=rfl
   by_cases c:x.f0=1
   ·simp[c,h0]
   ·simp[c,h0]
theorem vN (l:List bh) (nx:Int) (hl:l.length≤1048576) (hs:∀x∈l,pC x):Ev (fun k=>bq.f k l nx) (pD l nx):=by
 unfold bq.f pD;simp only[nn,Option.bind_some]
 have no:∀r:Bool,r=false→Ev (fun k=>bq.j0 k true l nx) r:=by
  intro r hr
  apply aV
  simp only[bq.j0];exact bs (by simp) (eP (Ev.now _) hr.symm)
 by_cases c1:1≤l.length∧l.length≤30
 ·refine bs (by simp;omega) ?_
  by_cases c2:2≤nx∧nx≤1000
  ·apply aV
   simp only[bq.j0];refine dv (by simp[c2]) (eP (rW l nx hl hs (by omega)) ?_);simp[c1,c2]
  ·rw[show decide (2≤nx∧nx≤1000)=false from decide_eq_false c2];exact no _ (by simp)
 ·refine dv (by simp;omega) (no _ ?_);rw[show decide (1≤l.length∧l.length≤30)=false from decide_eq_false c1]
  rfl
theorem vO (l:List bh) (nx:Int) (hl:l.length≤1048576) (hs:∀x∈l,pC x):Ev (fun k=>br.f k l nx) (pD l nx):=by
 unfold br.f pD;simp only[pA,Option.bind_some]
 have no:∀r:Bool,r=false→Ev (fun k=>br.j0 k true l nx) r:=by
  intro r hr
  apply aV
  simp only[br.j0];exact bs (by simp) (eP (Ev.now _) hr.symm)
 by_cases c1:l.length≤30
 ·refine dv (by omega) ?_
  by_cases c2:2≤nx∧nx≤1000
  ·apply aV
   simp only[br.j0];refine dv (by simp[c2]) (eP (rX l nx hl hs _ (at_one l nx hl hs)) ?_)
   by_cases c0:1≤l.length
   ·rw[acg nx l c0];simp[c0,c1,c2]
   ·obtain rfl:l=[]:=List.eq_nil_of_length_eq_zero (by omega);simp[kE,atOk,cE]
  ·rw[show decide (2≤nx∧nx≤1000)=false from decide_eq_false c2];exact no _ (by simp)
 ·refine bs (by omega) (no _ ?_);rw[show decide (1≤l.length∧l.length≤30)=false from decide_eq_false (by omega)]
  rfl
end Go.Proofs.YtlecajlnjmbilaaGreatDoor.Q
namespace Go.Proofs.YtlecajlnjmbilaaGreatDoor.Q
open Go.RowKit Go.Proofs.YtlecajlnjmbilaaGreatDoor.P Go.Proofs.ae.au Go.Proofs.ae.ba Go.Proofs.ae.bg
def fg (n:Int) (e:List eb):Nat:=(e.filter fun x=>decide (x.f1=n)).length
def fW (n:Int) (x:bh):Nat:=if x.f1=2 then fg n x.f4 else 0
def eD (n:Int) (l:List bh):Nat:=(l.map (fW n)).sum
theorem oC (n:Int) (e:List eb) (j:Nat) (hj:j<e.length):fg n (e.drop j)=(if e[j].f1=n then 1 else 0)+fg n (e.drop (j+1)):=by
 unfold fg;rw[List.drop_eq_getElem_cons hj,List.filter_cons]
 by_cases h:e[j].f1=n
 ·rw[if_pos (by simpa using h),if_pos h,List.length_cons];omega
 ·rw[if_neg (by simpa using h),if_neg h];omega
theorem pE (n:Int) (l:List bh) (j:Nat) (hj:j<l.length):eD n (l.drop j)=fW n l[j]+eD n (l.drop (j+1)):=by
 unfold eD;rw[List.drop_eq_getElem_cons hj,List.map_cons,List.sum_cons]
theorem vP (L:List bh) (nx n:Int) (hl:L.length≤1048576) (hs:∀x∈L,x.f4.length≤1048576) (hu:eD n L≤4611686018427387904):Ev (fun k=>bd.f k L nx n) (eD n L:Int):=by
 have key:∀acc:Nat,acc+eD n (L.drop 0)≤4611686018427387904→Ev (fun k=>bd.l0 k n (acc:Int) (0:Nat) L nx) ((acc+eD n (L.drop 0):Nat):Int):=by
  refine down (n:=L.length) (P:=fun i=>∀acc:Nat,acc+eD n (L.drop i)≤4611686018427387904→Ev (fun k=>bd.l0 k n (acc:Int) (i:Nat) L nx) ((acc+eD n (L.drop i):Nat):Int)) ?_ (fun i hi ih=> ?_)
  ·intro acc _;rw[List.drop_length]
   apply aV
   simp only[bd.l0];exact dv (by omega) (eP (Ev.now _) (by simp[eD]))
  ·intro acc hb;rw[pE n L i hi]at hb⊢;have hx:=hs _ (List.getElem_mem hi);have ih:=ih (acc+fW n L[i]) (by omega);rw[←my i L.length hi (by omega)]at ih;have ih:Ev (fun k=>bd.l0 k n ((acc+fW n L[i]:Nat):Int) (wrap64 ((i:Int)+1)) L nx) ((acc+(fW n L[i]+eD n (L.drop (i+1))):Nat):Int):=eP ih (by omega);generalize ((acc+(fW n L[i]+eD n (L.drop (i+1))):Nat):Int)=R at ih⊢
   apply aV
   simp only[bd.l0];refine bs (by omega) ?_;have hrd:af L (i:Int)=L[i]:=getD_at L _ i hi
   have go:∀acc j,Ev (fun k=>bd.l0 k n acc (wrap64 ((i:Int)+1)) L nx) R→Ev (fun k=>bd.j2 k n acc i j false L nx) R:=by
    intro acc j h
    apply aV
    simp only[bd.j2];exact dv (by simp) h
   by_cases hk:L[i].f1=2
   ·unfold fW at ih hb;rw[if_pos hk]at ih hb
    have inner:∀acc:Nat,acc+fg n (L[i].f4.drop 0)≤4611686018427387904→Ev (fun k=>bd.l0 k n ((acc+fg n (L[i].f4.drop 0):Nat):Int) (wrap64 ((i:Int)+1)) L nx) R→Ev (fun k=>bd.l1 k n (acc:Int) i (0:Nat) L nx) R:=by
     refine down (n:=L[i].f4.length) (P:=fun j=>∀acc:Nat,acc+fg n (L[i].f4.drop j)≤4611686018427387904→Ev (fun k=>bd.l0 k n ((acc+fg n (L[i].f4.drop j):Nat):Int) (wrap64 ((i:Int)+1)) L nx) R→Ev (fun k=>bd.l1 k n (acc:Int) i (j:Nat) L nx) R) ?_ (fun j hj ihj=> ?_)
     ·intro acc _ h;rw[List.drop_length]at h
      apply aV
      simp only[bd.l1,hrd];exact bs (by omega) (bs (by omega) (dv (by omega) (go _ _ (by simpa [fg]using h))))
     ·intro acc hb h;rw[oC n _ j hj]at hb h
      apply aV
      simp only[bd.l1,hrd];refine bs (by omega) (bs (by omega) (bs (by omega) ?_))
      apply aV
      simp only[bd.j2,hrd];have hrj:al L[i].f4 (j:Int)=L[i].f4[j]:=getD_at L[i].f4 _ j hj;refine bs (by simp[hk]) (bs (by omega) (bs (by omega) (bs (by omega) (bs (by omega) ?_))));rw[hrj,my j L[i].f4.length hj (by omega)]
      by_cases he:L[i].f4[j].f1=n
      ·rw[if_pos he]at hb h;refine bs he ?_;rw[kT (n:=(acc:Int)+1) (by omega) (by omega)];have:=ihj (acc+1) (by omega) (by rw[show acc+1+fg n (L[i].f4.drop (j+1))=acc+(1+fg n (L[i].f4.drop (j+1)))from by omega];exact h)
       simpa using this
      ·rw[if_neg he]at hb h;refine dv he (ihj acc (by omega) ?_)
       simpa using h
    exact inner acc (by simp only[List.drop_zero];omega) (by simpa using ih)
   ·unfold fW at ih;rw[if_neg hk]at ih
    apply aV
    simp only[bd.l1,hrd];refine bs (by omega) (bs (by omega) (ug (fun _=> ?_) (fun _=>go _ _ (by simpa using ih))));rw[show(L[i].f1==2)=false from by simp[hk]];exact go _ _ (by simpa using ih)
 have:=key 0 (by simpa using hu)
 simpa [bd.f]using this
theorem vQ (L:List bh) (nx n:Int) (hl:L.length≤1048576) (hs:∀x∈L,x.f4.length≤1048576) (hu:eD n L≤4611686018427387904):Ev (fun k=>bz.f k L nx n) (eD n L:Int):=by
 have key:∀acc:Nat,acc+eD n (L.drop 0)≤4611686018427387904→Ev (fun k=>bz.l0 k n (acc:Int) L (L.length:Int) (0:Nat)) ((acc+eD n (L.drop 0):Nat):Int):=by
  refine down (n:=L.length) (P:=fun i=>∀acc:Nat,acc+eD n (L.drop i)≤4611686018427387904→Ev (fun k=>bz.l0 k n (acc:Int) L (L.length:Int) (i:Nat)) ((acc+eD n (L.drop i):Nat):Int)) ?_ (fun i hi ih=> ?_)
  ·intro acc _;rw[List.drop_length]
   apply aV
   simp only[bz.l0];exact dv (by omega) (eP (Ev.now _) (by simp[eD]))
  ·intro acc hb;rw[pE n L i hi]at hb⊢;have hx:=hs _ (List.getElem_mem hi);have ih:=ih (acc+fW n L[i]) (by omega);rw[←my i L.length hi (by omega)]at ih;have ih:Ev (fun k=>bz.l0 k n ((acc+fW n L[i]:Nat):Int) L (L.length:Int) (wrap64 ((i:Int)+1))) ((acc+(fW n L[i]+eD n (L.drop (i+1))):Nat):Int):=eP ih (by omega);generalize ((acc+(fW n L[i]+eD n (L.drop (i+1))):Nat):Int)=R at ih⊢
   apply aV
   have hrd:af L (i:Int)=L[i]:=getD_at L _ i hi;simp only[bz.l0,hrd];refine bs (by omega) ?_;refine bs (by omega) (bs (by omega) ?_)
   by_cases hk:L[i].f1=2
   ·unfold fW at ih hb;rw[if_pos hk]at ih hb;refine bs hk ?_
    have inner:∀acc:Nat,acc+fg n (L[i].f4.drop 0)≤4611686018427387904→Ev (fun k=>bz.l0 k n ((acc+fg n (L[i].f4.drop 0):Nat):Int) L (L.length:Int) (wrap64 ((i:Int)+1))) R→Ev (fun k=>bz.l1 k n (acc:Int) L (L.length:Int) i L[i].f4 (L[i].f4.length:Int) (0:Nat)) R:=by
     refine down (n:=L[i].f4.length) (P:=fun j=>∀acc:Nat,acc+fg n (L[i].f4.drop j)≤4611686018427387904→Ev (fun k=>bz.l0 k n ((acc+fg n (L[i].f4.drop j):Nat):Int) L (L.length:Int) (wrap64 ((i:Int)+1))) R→Ev (fun k=>bz.l1 k n (acc:Int) L (L.length:Int) i L[i].f4 (L[i].f4.length:Int) (j:Nat)) R) ?_ (fun j hj ihj=> ?_)
     ·intro acc _ h;rw[List.drop_length]at h
      apply aV
      simp only[bz.l1];exact dv (by omega) (by simpa [fg]using h)
     ·intro acc hb h;rw[oC n _ j hj]at hb h
      apply aV
      simp only[bz.l1];have hrj:al L[i].f4 (j:Int)=L[i].f4[j]:=getD_at L[i].f4 _ j hj;refine bs (by omega) (bs (by omega) (bs (by omega) ?_));rw[hrj,my j L[i].f4.length hj (by omega)]
      by_cases he:L[i].f4[j].f1=n
      ·rw[if_pos he]at hb h;refine bs he ?_;rw[kT (n:=(acc:Int)+1) (by omega) (by omega)];have:=ihj (acc+1) (by omega) (by rw[show acc+1+fg n (L[i].f4.drop (j+1))=acc+(1+fg n (L[i].f4.drop (j+1)))from by omega];exact h)
       simpa using this
      ·rw[if_neg he]at hb h;refine dv he (ihj acc (by omega) ?_)
       simpa using h
    exact inner acc (by simp only[List.drop_zero];omega) (by simpa using ih)
   ·unfold fW at ih;rw[if_neg hk]at ih;exact dv hk (by simpa using ih)
 have:=key 0 (by simpa using hu)
 simpa [bz.f]using this
end Go.Proofs.YtlecajlnjmbilaaGreatDoor.Q
namespace Go.Proofs.YtlecajlnjmbilaaGreatDoor.Q
open Go.RowKit Go.Proofs.YtlecajlnjmbilaaGreatDoor.P Go.Proofs.ae.au Go.Proofs.ae.ba Go.Proofs.ae.bg
theorem uo (l:List Int):(strOfNums l).size=l.length:=by
 simp[strOfNums,ByteArray.size]
theorem vR (m:Nat):∀(n:Int) (s:ByteArray),0≤n→n≤9223372036854775807→n<10^m→s.size+m≤1000→∃r,Ev (fun k=>aY.l0 k n s) r:=by
 induction m with
 |zero=>
  intro n s h0 _ h1 hs;refine⟨(⟨#[109]⟩:ByteArray)++s,aV ?_⟩;simp only[aY.l0];exact dv (by omega) (bs (by omega) (Ev.now _))
 |succ m ih=>
  intro n s h0 hM h1 hs
  by_cases hn:n>0
  ·have hd:wrap64 (Int.tdiv n 10)=n/10:=by rw[Int.tdiv_eq_ediv_of_nonneg h0];exact kT (by omega) (by omega)
   obtain⟨r,hr⟩:=ih (n/10) ((strOfNums [wrap64 (48+Int.tmod n 10)%256])++s) (by omega) (by omega) (by rw[Int.pow_succ]at h1;omega) (by rw[ByteArray.size_append,uo];simp;omega);refine⟨r,aV ?_⟩;simp only[aY.l0,Option.bind_some,hd];exact bs hn (bs (by rw[uo];simp;omega) hr)
  ·refine⟨(⟨#[109]⟩:ByteArray)++s,aV ?_⟩;simp only[aY.l0];exact dv hn (bs (by omega) (Ev.now _))
theorem abn (n:Int) (h0:1≤n) (h1:n≤9223372036854775807):∃r,Ev (fun k=>aY.f k n) r:=by
 obtain⟨r,h⟩:=vR 19 n ⟨#[]⟩ (by omega) h1 (by omega) (by decide);exact⟨r,by unfold aY.f;exact dv (by omega) h⟩
theorem qo {α:Type}(y:List α) (i:Nat) (v:α) (h:i<y.length):(y.set i v).take (i+1)=y.take i++[v]:=by
 rw[List.take_succ_eq_append_getElem (by simpa using h),List.getElem_set_self,List.take_set_of_le (Nat.le_refl i)]
def su:Int→List eb→Prop
 |_,[]=>True
 |a,x::l=>Ev (fun k=>aY.f k a) x.f0∧x.f1=a+1∧su (a+2) l
def sv:Int→List eh→Prop
 |_,[]=>True
 |a,x::l=>Ev (fun k=>aY.f k a) x.f0∧Ev (fun k=>aY.f k (a+1)) x.f1∧sv (a+2) l
theorem abo (l:List eb):∀(a:Int) (i:Nat) (h:i<l.length),su a l→Ev (fun k=>aY.f k (a+2*i)) l[i].f0∧l[i].f1=a+2*i+1:=by
 induction l with
 |nil=>intro a i h;simp at h
 |cons x l ih=>
  intro a i h hh
  cases i with
  |zero=>exact⟨by simpa using hh.1,by simpa using hh.2.1⟩
  |succ i=>
   obtain⟨h1,h2⟩:=ih (a+2) i (by simpa using h) hh.2.2;rw[show a+2+2*(i:Int)=a+2*((i+1:Nat):Int)from by omega]at h1 h2;exact⟨h1,h2⟩
theorem abp (l:List eh):∀(a:Int) (i:Nat) (h:i<l.length),sv a l→Ev (fun k=>aY.f k (a+2*i)) l[i].f0∧Ev (fun k=>aY.f k (a+2*i+1)) l[i].f1:=by
 induction l with
 |nil=>intro a i h;simp at h
 |cons x l ih=>
  intro a i h hh
  cases i with
  |zero=>exact⟨by simpa using hh.1,by simpa using hh.2.1⟩
  |succ i=>
   obtain⟨h1,h2⟩:=ih (a+2) i (by simpa using h) hh.2.2;rw[show a+2+2*(i:Int)=a+2*((i+1:Nat):Int)from by omega]at h1 h2;exact⟨h1,h2⟩
theorem abq (l:List eb) (a:Int) (h0:1≤a) (h1:a+2*l.length≤4611686018427387904) (hh:su a l):Ev (fun k=>bw.f k l a) (a+2*l.length):=by
 have key:=down (n:=l.length) (P:=fun i=>Ev (fun k=>bw.l0 k l (a+2*i) (i:Nat)) (a+2*l.length)) (by
   apply aV
   simp only[bw.l0]
   exact dv (by omega) (Ev.now _)) (fun i hi h=>by
   obtain⟨g1,g2⟩:=abo l a i hi hh;have hrd:al l (i:Int)=l[i]:=getD_at l _ i hi
   apply aV
   simp only[bw.l0,hrd];rw[kT (n:=a+2*(i:Int)+1) (by omega) (by omega),kT (n:=a+2*(i:Int)+1+1) (by omega) (by omega),my i l.length hi (by omega)];refine bs (by omega) (bs (by omega) (Ev.bind g1 (bs rfl (bs g2 ?_))));rw[show a+2*(i:Int)+1+1=a+2*((i+1:Nat):Int)from by omega]
   exact h)
 simpa [bw.f]using key
theorem xt (l:List eh) (a:Int) (h0:1≤a) (h1:a+2*l.length≤4611686018427387904) (hh:sv a l):Ev (fun k=>aM.f k l a) (a+2*l.length):=by
 have key:=down (n:=l.length) (P:=fun i=>Ev (fun k=>aM.l0 k l (a+2*i) (i:Nat)) (a+2*l.length)) (by
   apply aV
   simp only[aM.l0]
   exact dv (by omega) (Ev.now _)) (fun i hi h=>by
   obtain⟨g1,g2⟩:=abp l a i hi hh;have hrd:an l (i:Int)=l[i]:=getD_at l _ i hi
   apply aV
   simp only[aM.l0,hrd];rw[kT (n:=a+2*(i:Int)+1) (by omega) (by omega),kT (n:=a+2*(i:Int)+1+1) (by omega) (by omega),my i l.length hi (by omega)];refine bs (by omega) (bs (by omega) (Ev.bind g1 (bs rfl (Ev.bind g2 (bs rfl ?_)))));rw[show a+2*(i:Int)+1+1=a+2*((i+1:Nat):Int)from by omega]
   exact h)
 simpa [aM.f]using key
theorem abr (l:List eb) (x:Int) (h0:1≤x) (h1:x+2*l.length≤4611686018427387904):∃r,Ev (fun k=>cX.f k l x) (x+2*l.length,r)∧r.length=l.length∧su x r:=by
 have key:=down (n:=l.length) (P:=fun i=>∀y:List eb,y.length=l.length→∃r,Ev (fun k=>cX.l0 k y (x+2*i) (i:Nat)) (x+2*l.length,y.take i++r)∧i+r.length=l.length∧su (x+2*i) r) (by
   intro y hy;refine⟨[],aV ?_,by simp,trivial⟩;simp only[cX.l0];refine dv (by omega) (eP (Ev.now _) ?_)
   rw[←hy,List.take_length,List.append_nil]) (by
   intro i hi h y hy;obtain⟨s,hs⟩:=abn (x+2*i) (by omega) (by omega);obtain⟨r,hr,hl,hh⟩:=h (((y.set i (⟨s,(al y (i:Nat)).f1⟩:eb)).set i (⟨(al (y.set i (⟨s,(al y (i:Nat)).f1⟩:eb)) (i:Nat)).f0,x+2*i+1⟩:eb))) (by simp[hy])
   have e0:(al (y.set i (⟨s,(al y (i:Nat)).f1⟩:eb)) (i:Nat)).f0=s:=by rw[al,getD_at _ _ i (by simpa using(by omega:i<y.length)),List.getElem_set_self]
   have e1:=e0;refine⟨⟨s,x+2*i+1⟩::r,aV ?_,by simp;omega,hs,rfl,by rw[show x+2*(i:Int)+2=x+2*((i+1:Nat):Int)from by omega];exact hh⟩;simp only[cX.l0,Option.bind_some];refine bs (by omega) (Ev.bind hs (bs (by omega) ?_));rw[kT (n:=x+2*(i:Int)+1) (by omega) (by omega),kT (n:=x+2*(i:Int)+1+1) (by omega) (by omega),my i l.length hi (by omega),show x+2*(i:Int)+1+1=x+2*((i+1:Nat):Int)from by omega];refine eP hr ?_;rw[e1,qo _ _ _ (by simp;omega),List.take_set_of_le (Nat.le_refl i),List.append_assoc]
   rfl)
 obtain⟨r,hr,hl,hh⟩:=key l rfl;exact⟨r,by simpa [cX.f]using hr,by omega,by simpa using hh⟩
theorem xu (l:List eh) (x:Int) (h0:1≤x) (h1:x+2*l.length≤4611686018427387904):∃r,Ev (fun k=>cQ.f k l x) (x+2*l.length,r)∧r.length=l.length∧sv x r:=by
 have key:=down (n:=l.length) (P:=fun i=>∀y:List eh,y.length=l.length→∃r,Ev (fun k=>cQ.l0 k y (x+2*i) (i:Nat)) (x+2*l.length,y.take i++r)∧i+r.length=l.length∧sv (x+2*i) r) (by
   intro y hy;refine⟨[],aV ?_,by simp,trivial⟩;simp only[cQ.l0];refine dv (by omega) (eP (Ev.now _) ?_)
   rw[←hy,List.take_length,List.append_nil]) (by
   intro i hi h y hy;obtain⟨s,hs⟩:=abn (x+2*i) (by omega) (by omega);obtain⟨s2,hs2⟩:=abn (x+2*i+1) (by omega) (by omega);obtain⟨r,hr,hl,hh⟩:=h (((y.set i (⟨s,(an y (i:Nat)).f1⟩:eh)).set i (⟨(an (y.set i (⟨s,(an y (i:Nat)).f1⟩:eh)) (i:Nat)).f0,s2⟩:eh))) (by simp[hy])
   have e1:(an (y.set i (⟨s,(an y (i:Nat)).f1⟩:eh)) (i:Nat)).f0=s:=by rw[an,getD_at _ _ i (by simpa using(by omega:i<y.length)),List.getElem_set_self]
   refine⟨⟨s,s2⟩::r,aV ?_,by simp;omega,hs,hs2,by rw[show x+2*(i:Int)+2=x+2*((i+1:Nat):Int)from by omega];exact hh⟩;simp only[cQ.l0,Option.bind_some];rw[kT (n:=x+2*(i:Int)+1) (by omega) (by omega),kT (n:=x+2*(i:Int)+1+1) (by omega) (by omega),my i l.length hi (by omega),show x+2*(i:Int)+1+1=x+2*((i+1:Nat):Int)from by omega];refine bs (by omega) (Ev.bind hs (bs (by omega) (Ev.bind hs2 (eP hr ?_))));rw[e1,qo _ _ _ (by simp;omega),List.take_set_of_le (Nat.le_refl i),List.append_assoc]
   rfl)
 obtain⟨r,hr,hl,hh⟩:=key l rfl;exact⟨r,by simpa [cQ.f]using hr,by omega,by simpa using hh⟩
def acA (a:Int) (d:List Int) (e:List eb) (t:List eh):Prop:=d=marks d.length a∧su (a+d.length) e∧sv (a+d.length+2*e.length) t
def inW (d:List Int) (e:List eb) (t:List eh):Nat:=d.length+2*e.length+2*t.length
end Go.Proofs.YtlecajlnjmbilaaGreatDoor.Q
namespace Go.Proofs.YtlecajlnjmbilaaGreatDoor.Q
open Go.RowKit Go.Proofs.YtlecajlnjmbilaaGreatDoor.P Go.Proofs.ae.au Go.Proofs.ae.ba Go.Proofs.ae.bg
def lV (x:bh):Nat:=3+inW x.f3 x.f4 x.f5
def cN (l:List bh):Nat:=(l.map lV).sum
def sw:Int→List bh→Prop
 |_,[]=>True
 |a,x::l=>(x.f0=a∧x.f1=a+1∧x.f2=a+2∧acA (a+3) x.f3 x.f4 x.f5)∧sw (a+lV x) l
theorem abt (l:List bh):∀(x:Int),1≤x→x+cN l≤4611686018427387904→∃r,Ev (fun k=>qg k l x) (x+cN l,r)∧r.length=l.length∧cN r=cN l∧sw x r:=by
 induction l with
 |nil=>intro x _ _;exact⟨[],eP (Ev.now _) (by simp[cN]),rfl,rfl,trivial⟩
 |cons y l ih=>
  intro x h0 h1
  have hw:cN (y::l)=lV y+cN l:=by simp[cN]
  rw[hw]at h1⊢;obtain⟨r,hr,hl,hW,hh⟩:=ih (x+lV y) (by omega) (by omega);have hy:lV y=3+(y.f3.length+2*y.f4.length+2*y.f5.length):=rfl;have g1:=pw y.f3 (x+1+1+1) (by omega) (by omega);obtain⟨e',g2,l2,v2⟩:=abr y.f4 (x+1+1+1+y.f3.length) (by omega) (by omega);obtain⟨t',g3,l3,v3⟩:=xu y.f5 (x+1+1+1+y.f3.length+2*y.f4.length) (by omega) (by omega)
  have hz:lV ⟨x,x+1,x+1+1,marks y.f3.length (x+1+1+1),e',t'⟩=lV y:=by
   simp only[lV,inW,fI,l2,l3]
  refine⟨⟨x,x+1,x+1+1,marks y.f3.length (x+1+1+1),e',t'⟩::r,?_,by simp[hl],by simp only[cN,List.map_cons,List.sum_cons,hz]at hW⊢;omega,⟨rfl,rfl,by dsimp only;omega,?_⟩,by rw[hz];exact hh⟩
  ·simp only[qg,sZ];rw[kT (n:=x+1) (by omega) (by omega),kT (n:=x+1+1) (by omega) (by omega),kT (n:=x+1+1+1) (by omega) (by omega)];refine Ev.bind (Ev.bind g1 (Ev.bind g2 (Ev.bind g3 (Ev.now _)))) ?_;rw[show x+1+1+1+(y.f3.length:Int)+2*y.f4.length+2*y.f5.length=x+lV y from by omega];refine Ev.bind hr (eP (Ev.now _) ?_);rw[show x+((lV y+cN l:Nat):Int)=x+lV y+cN l from by omega]
  ·rw[show x+1+1+1=x+3 from by omega]at v2 v3⊢;exact⟨by rw[fI],by rw[fI];exact v2,by rw[fI,l2];exact v3⟩
theorem sr (l:List bh) (x:Int) (hl:l.length≤1048577) (h0:1≤x) (h1:x+cN l≤4611686018427387904):∃r,Ev (fun k=>eo.f k l x) (x+cN l,r)∧r.length=l.length∧cN r=cN l∧sw x r:=by
 obtain⟨r,hr,z⟩:=abt l x h0 h1;exact⟨r,by unfold eo.f;exact bs (by omega) hr,z⟩
theorem aba (l:List bh) (x:Int) (hl:l.length≤1048576) (h0:1≤x) (h1:x+cN l≤4611686018427387904):∃r,Ev (fun k=>eo.f k l x) (x+cN l,r)∧r.length=l.length∧cN r=cN l∧sw x r:=sr l x (by omega) h0 h1
theorem abu (l:List bh):∀(a:Int) (i:Nat) (h:i<l.length),sw a l→(l[i].f0=a+cN (l.take i)∧l[i].f1=a+cN (l.take i)+1∧l[i].f2=a+cN (l.take i)+2∧acA (a+cN (l.take i)+3) l[i].f3 l[i].f4 l[i].f5):=by
 induction l with
 |nil=>intro a i h;simp at h
 |cons x l ih=>
  intro a i h hh
  cases i with
  |zero=>simpa [cN]using hh.1
  |succ i=>
   have:=ih (a+lV x) i (by simpa using h) hh.2;rw[show a+(lV x:Int)+cN (l.take i)=a+cN ((x::l).take (i+1))from by simp[cN];omega]at this;exact this
theorem vS (l:List bh) (i:Nat) (h:i<l.length):cN (l.take (i+1))=cN (l.take i)+lV l[i]:=by
 unfold cN;rw[List.take_succ_eq_append_getElem h,List.map_append,List.sum_append];simp
theorem abv (l:List bh) (i:Nat):cN (l.take i)≤cN l:=by
 have h:cN l=cN (l.take i)+cN (l.drop i):=by unfold cN;rw[←List.sum_append,←List.map_append,List.take_append_drop]
 omega
end Go.Proofs.YtlecajlnjmbilaaGreatDoor.Q
namespace Go.Proofs.YtlecajlnjmbilaaGreatDoor.Q
open Go.RowKit Go.Proofs.YtlecajlnjmbilaaGreatDoor.P Go.Proofs.ae.au Go.Proofs.ae.ba Go.Proofs.ae.bg
theorem xl (l:List bh) (nx x:Int) (hl:l.length≤1048577) (h0:1≤x) (h1:x+cN l≤4611686018427387904) (hh:sw x l):Ev (fun k=>eS.f k l nx x) (x+cN l):=by
 have key:=down (n:=l.length) (P:=fun i=>Ev (fun k=>aA.l0 k l (x+cN (l.take i)) (i:Nat)) (x+cN l)) (by
   apply aV
   simp only[aA.l0,List.take_length]
   exact dv (by omega) (Ev.now _)) (fun i hi h=>by
   obtain⟨g0,g1,g2,hd,he,ht⟩:=abu l x i hi hh;have hrd:af l (i:Int)=l[i]:=getD_at l _ i hi;have hw:=vS l i hi;have hle:=abv l (i+1);have hy:lV l[i]=3+(l[i].f3.length+2*l[i].f4.length+2*l[i].f5.length):=rfl;generalize hA:x+(cN (l.take i):Int)=A at g0 g1 g2 hd he ht;have b1:=tg l[i].f3.length (A+3) (by omega) (by omega);rw[←hd]at b1;have b2:=abq l[i].f4 (A+3+l[i].f3.length) (by omega) (by omega) he;have b3:=xt l[i].f5 (A+3+l[i].f3.length+2*l[i].f4.length) (by omega) (by omega) ht
   apply aV
   simp only[aA.l0];refine bs (by omega) ?_
   apply aV
   simp only[aA.j1,hrd];refine bs (by omega) (bs (by omega) (bs g0 ?_))
   apply aV
   simp only[aA.j2,hrd];rw[kT (n:=A+1) (by omega) (by omega)];refine bs (by omega) (bs (by omega) (bs g1 ?_))
   apply aV
   simp only[aA.j3,hrd];rw[kT (n:=A+1+1) (by omega) (by omega)];refine bs (by omega) (bs (by omega) (bs (by omega) ?_))
   apply aV
   simp only[aA.j4,hrd];rw[kT (n:=A+1+1+1) (by omega) (by omega),show A+1+1+1=A+3 from by omega];refine bs (by omega) (bs (by omega) (Ev.bind b1 (dv (by omega) ?_)))
   apply aV
   simp only[aA.j5,hrd];refine bs (by omega) (bs (by omega) (Ev.bind b2 (dv (by omega) (Ev.bind b3 (dv (by omega) ?_)))));rw[my i l.length hi (by omega)];rw[show A+3+(l[i].f3.length:Int)+2*l[i].f4.length+2*l[i].f5.length=x+cN (l.take (i+1))from by omega]
   exact h)
 unfold eS.f aA.f;refine Ev.bind (a:=x+cN l) ?_ (dv (by omega) (Ev.now _))
 simpa [cN]using key
end Go.Proofs.YtlecajlnjmbilaaGreatDoor.Q
namespace Go.Proofs.YtlecajlnjmbilaaGreatDoor.Q
open Go.RowKit Go.Proofs.YtlecajlnjmbilaaGreatDoor.P Go.Proofs.ae.au Go.Proofs.ae.ba Go.Proofs.ae.bg
structure gv (x:bh):Prop where
 d:x.f3.length≤1048576
 e:x.f4.length≤1048576
 t:x.f5.length≤1048576
theorem ry (x:bh) (h:gv x):er.f x.f0 x.f1 x.f2 x.f3 x.f4 x.f5=some (x.f0,x.f1,x.f2,x.f3,x.f4,x.f5):=by
 have hd:=h.d;have he:=h.e;have ht:=h.t
 have a:cy.f x.f3=some x.f3:=by unfold cy.f;simp;omega
 have b:dj.f x.f4=some x.f4:=by unfold dj.f;simp;omega
 have c:cW.f x.f5=some x.f5:=by unfold cW.f;simp;omega
 unfold er.f;rw[a,Option.bind_some,b,Option.bind_some,c,Option.bind_some]
end Go.Proofs.YtlecajlnjmbilaaGreatDoor.Q
namespace Go.Proofs.YtlecajlnjmbilaaGreatDoor.Q
open Go.RowKit Go.Proofs.YtlecajlnjmbilaaGreatDoor.P Go.Proofs.ae.au Go.Proofs.ae.ba Go.Proofs.ae.bg
theorem pF (x:bh) (h:gv x):dg.f x.f0 x.f1 x.f2 x.f3 x.f4 x.f5=some (x.f0,x.f1,x.f2,x.f3,x.f4,x.f5):=by
 have hd:=h.d;have he:=h.e;have ht:=h.t;unfold dg.f;simp only[Option.bind_some,List.length_nil,List.nil_append];rw[if_pos (by omega),if_pos (by omega),if_pos (by omega)]
end Go.Proofs.YtlecajlnjmbilaaGreatDoor.Q
namespace Go.Proofs.YtlecajlnjmbilaaGreatDoor.Q
open Go.RowKit Go.Proofs.YtlecajlnjmbilaaGreatDoor.P Go.Proofs.ae.au Go.Proofs.ae.ba Go.Proofs.ae.bg
theorem abf (l:List mo):cN (l.map jt)≤3*qn l:=by
 unfold cN qn
 induction l with
 |nil=>simp
 |cons x l ih=>
  simp only[List.map_cons,List.sum_cons,List.length_cons]
  have:lV (jt x)≤3+3*py x:=by
   unfold lV inW py px jt;simp only[List.length_map]
   omega
  omega
theorem tq (p:bh→Bool) (l:List bh):cN (l.filter p)≤cN l:=by
 unfold cN
 induction l with
 |nil=>simp
 |cons x l ih=>
  rw[List.filter_cons]
  split
  ·simp only[List.map_cons,List.sum_cons];omega
  ·simp only[List.map_cons,List.sum_cons];omega
theorem rm {l:List bh}(h:∀x∈l,gv x):∀x∈l,x.f3.length≤9223372036854775807∧x.f4.length≤9223372036854775807∧x.f5.length≤9223372036854775807:=fun x hx=>by
 have a:=(h x hx).d;have b:=(h x hx).e;have c:=(h x hx).t
 omega
end Go.Proofs.YtlecajlnjmbilaaGreatDoor.Q
namespace Go.Proofs.YtlecajlnjmbilaaGreatDoor.Q
open Go.RowKit Go.Proofs.YtlecajlnjmbilaaGreatDoor.P Go.Proofs.ae.au Go.Proofs.ae.ba Go.Proofs.ae.bg
theorem la (ino:Int) (l:List bh):∀i:Nat,cE ino l i= -1∨((i:Int)≤cE ino l i∧cE ino l i<i+l.length):=by
 induction l with
 |nil=>intro i;exact .inl rfl
 |cons x l ih=>
  intro i;rw[cE]
  split
  ·right;simp only[List.length_cons];omega
  ·rcases ih (i+1)with h|h
   ·exact .inl h
   ·right;simp only[List.length_cons];omega
theorem oo (l:List bh) (nx ino:Int) (hl:l.length≤1048576):Ev (fun k=>cF.f k l nx ino) (cE ino l 0):=by
 have key:=down (n:=l.length) (P:=fun i=>Ev (fun k=>cF.l0 k ino (i:Nat) l nx) (cE ino (l.drop i) i)) (by
   apply aV
   simp only[cF.l0];refine dv (by omega) (eP (Ev.now _) ?_)
   rw[List.drop_length];rfl) (fun i hi h=>by
   have hrd:af l (i:Int)=l[i]:=getD_at l _ i hi
   apply aV
   simp only[cF.l0,hrd];rw[my i l.length hi (by omega),List.drop_eq_getElem_cons hi,cE];refine bs (by omega) (bs (by omega) ?_)
   by_cases c:l[i].f0=ino
   ·exact bs c (eP (Ev.now _) (by rw[if_pos c]))
   ·exact dv c (eP h (by rw[if_neg c])))
 simpa [cF.f]using key
end Go.Proofs.YtlecajlnjmbilaaGreatDoor.Q
namespace Go.Proofs.YtlecajlnjmbilaaGreatDoor.Q
open Go.RowKit Go.Proofs.YtlecajlnjmbilaaGreatDoor.P Go.Proofs.ae.au Go.Proofs.ae.ba Go.Proofs.ae.bg
def fN (l:List bh) (ino:Int):bh:=if cE ino l 0<0 then⟨0,0,0,[],[],[]⟩else af l (cE ino l 0)
def eN (l:List bh) (ino:Int):Bool:=decide (0≤cE ino l 0)
theorem iQ (l:List bh) (ino:Int) (hs:∀x∈l,gv x):gv (fN l ino):=by
 unfold fN
 split
 ·exact⟨by simp,by simp,by simp⟩
 ·rcases la ino l 0 with h|h
  ·omega
  ·obtain⟨n,hn⟩:∃n:Nat,cE ino l 0=n:=⟨(cE ino l 0).toNat,by omega⟩;rw[hn]at h⊢
   have hlt:n<l.length:=by omega
   have hrd:af l (n:Int)=l[n]:=getD_at l _ n hlt;rw[hrd];exact hs _ (List.getElem_mem hlt)
theorem nq (l:List bh) (nx ino:Int) (hl:l.length≤1048576) (hs:∀x∈l,gv x):
  Ev (fun k=>cP.f k l nx ino) ((fN l ino).f0,(fN l ino).f1,(fN l ino).f2,(fN l ino).f3,(fN l ino).f4,(fN l ino).f5,eN l ino):=by
 have hc:=iQ l ino hs;have hr:=la ino l 0;unfold cP.f ek.f;refine Ev.bind (bs (by omega) (Ev.now _)) ?_
 by_cases c:cE ino l 0<0
 ·refine bs c (eP (Ev.now _) ?_);simp only[fN,eN,if_pos c,show decide (0≤cE ino l 0)=false from decide_eq_false (by omega)]
 ·have hi:fN l ino=af l (cE ino l 0):=by simp only[fN,if_neg c]
  rw[hi]at hc⊢;refine dv c (bs (by omega) (bs (by omega) ?_));simp only[ry _ hc,Option.bind_some];refine eP (Ev.now _) ?_;simp only[eN,show decide (0≤cE ino l 0)=true from decide_eq_true (by omega)]
end Go.Proofs.YtlecajlnjmbilaaGreatDoor.Q
namespace Go.Proofs.YtlecajlnjmbilaaGreatDoor.Q
open Go.RowKit Go.Proofs.YtlecajlnjmbilaaGreatDoor.P Go.Proofs.ae.au Go.Proofs.ae.ba Go.Proofs.ae.bg
theorem pG (l:List bh) (nx ino:Int) (hl:l.length≤1048576) (hs:∀x∈l,gv x):
  Ev (fun k=>ff.f k l nx ino) ((fN l ino).f0,(fN l ino).f1,(fN l ino).f2,(fN l ino).f3,(fN l ino).f4,(fN l ino).f5,eN l ino):=by
 have hc:=iQ l ino hs;have hr:=la ino l 0;unfold ff.f;refine Ev.bind (oo l nx ino hl) ?_
 by_cases c:cE ino l 0<0
 ·refine bs c (eP (Ev.now _) ?_);simp only[fN,eN,if_pos c,show decide (0≤cE ino l 0)=false from decide_eq_false (by omega)]
 ·have hi:fN l ino=af l (cE ino l 0):=by simp only[fN,if_neg c]
  rw[hi]at hc⊢;refine dv c (bs (by omega) (bs (by omega) ?_));simp only[pF _ hc,Option.bind_some];refine eP (Ev.now _) ?_;simp only[eN,show decide (0≤cE ino l 0)=true from decide_eq_true (by omega)]
end Go.Proofs.YtlecajlnjmbilaaGreatDoor.Q
namespace Go.Proofs.YtlecajlnjmbilaaGreatDoor.Q
open Go.RowKit Go.Proofs.YtlecajlnjmbilaaGreatDoor.P Go.Proofs.ae.au Go.Proofs.ae.ba Go.Proofs.ae.bg
def pH (name:ByteArray):List eb→Int
 |[]=>0
 |e::l=>if e.f0.toList=name.toList then e.f1 else pH name l
theorem vT (a b c:Int) (d:List Int) (e:List eb) (t:List eh) (name:ByteArray) (he:e.length≤9223372036854775807):Ev (fun k=>eF.f k a b c d e t name) (pH name e):=by
 unfold eF.f;refine wE (fun k i=>eF.l0 k name i a b c d e t) e (pH name) ?_ (fun i hi h=> ?_)
 ·apply aV
  simp only[eF.l0];exact dv (by omega) (Ev.now _)
 ·apply aV
  simp only[eF.l0,al,getD_at e _ i hi,pH];refine bs (by omega) (bs (by omega) ?_);rw[my i e.length hi he];exact evI (fun _=>Ev.now _) (fun _=>h)
theorem vU (a b c:Int) (d:List Int) (e:List eb) (t:List eh) (name:ByteArray) (he:e.length≤9223372036854775807):Ev (fun k=>eG.f k a b c d e t name) (pH name e):=by
 unfold eG.f;refine wE (fun k i=>eG.l0 k name e (e.length:Int) i) e (pH name) ?_ (fun i hi h=> ?_)
 ·apply aV
  simp only[eG.l0];exact dv (by omega) (Ev.now _)
 ·apply aV
  simp only[eG.l0,al,getD_at e _ i hi,pH];refine bs (by omega) (bs (by omega) (bs (by omega) ?_));rw[my i e.length hi he];exact evI (fun _=>Ev.now _) (fun _=>h)
end Go.Proofs.YtlecajlnjmbilaaGreatDoor.Q
namespace Go.Proofs.YtlecajlnjmbilaaGreatDoor.Q
open Go.RowKit Go.Proofs.YtlecajlnjmbilaaGreatDoor.P Go.Proofs.ae.au Go.Proofs.ae.ba Go.Proofs.ae.bg
theorem ad9 (i:Nat) (n:Nat) (hi:i<n) (hn:n≤9223372036854775807):wrap64 ((i:Int)+1)=((i+1:Nat):Int):=by
 rw[kT (by omega) (by omega)];omega
theorem rdS (l:List ByteArray) (i:Nat) (h:i<l.length):lq ByteArray.empty l (i:Int)=l[i]:=getD_at l _ i h
def sx (l:List ByteArray):Nat:=(l.map ByteArray.size).sum
theorem ach (l:List ByteArray) (hs:∀x∈l,x.size≤1048576):∀i:Nat,∃r,Ev (fun k=>badR k l i) r∧(decide (0≤r))= !(l.all i_):=by
 induction l with
 |nil=>intro i;exact⟨-1,Ev.now _,rfl⟩
 |cons x l ih=>
  intro i;have hx:=pU x (by have:=hs x (List.mem_cons_self ..);omega)
  by_cases c:i_ x=true
  ·obtain⟨r,h1,h2⟩:=ih (fun y hy=>hs y (List.mem_cons_of_mem _ hy)) (i+1);refine⟨r,?_,by rw[h2,List.all_cons,c,Bool.true_and]⟩;simp only[badR];exact Ev.bind hx (bs c h1)
  ·refine⟨(i:Int),?_,by simp[c]⟩;simp only[badR];exact Ev.bind hx (dv c (Ev.now _))
def lT (l:List ByteArray):Bool:=l.all i_&&decide (l.length≤30)
theorem vV (l:List ByteArray) (hs:∀x∈l,x.size≤1048576):Ev (fun k=>f_.f k l) (lT l):=by
 unfold f_.f lT
 by_cases c:l.length≤30
 ·obtain⟨r,h1,h2⟩:=ach l hs 0;refine bs c (Ev.bind h1 (eP (Ev.now _) ?_));rw[h2];simp[c]
 ·exact dv c (eP (Ev.now _) (by simp[c]))
end Go.Proofs.YtlecajlnjmbilaaGreatDoor.Q
namespace Go.Proofs.YtlecajlnjmbilaaGreatDoor.Q
open Go.RowKit Go.Proofs.YtlecajlnjmbilaaGreatDoor.P Go.Proofs.ae.au Go.Proofs.ae.ba Go.Proofs.ae.bg
end Go.Proofs.YtlecajlnjmbilaaGreatDoor.Q
namespace Go.Proofs.YtlecajlnjmbilaaGreatDoor.Q
open Go.RowKit Go.Proofs.YtlecajlnjmbilaaGreatDoor.P Go.Proofs.ae.au Go.Proofs.ae.ba Go.Proofs.ae.bg
def iy (q:List UInt8):List (List UInt8)→List (List UInt8)
 |[]=>[q]
 |p::ps=>(q++p)::ps
def parts:List UInt8→List (List UInt8)
 |[]=>[[]]
 |b::l=>if b=47 then []::parts l else iy [b] (parts l)
theorem lf (l:List UInt8):parts l≠[]:=by
 cases l with
 |nil=>simp[parts]
 |cons b l=>
  rw[parts]
  split
  ·simp
  ·cases parts l<;>simp[iy]
theorem qp (X:List (List UInt8)) (h:X≠[]):iy [] X=X:=by
 cases X with
 |nil=>exact absurd rfl h
 |cons p ps=>rfl
theorem uq (q r:List UInt8) (X:List (List UInt8)):iy q (iy r X)=iy (q++r) X:=by
 cases X<;>simp[iy]
theorem xv (k:Nat) (b:UInt8) (l:List UInt8) (h:b≠47):Lib.splitK [47] 0 k (b::l)=iy [b] (Lib.splitK [47] 0 k l):=by
 cases k with
 |zero=>rfl
 |succ k=>
  have hp:([47]:List UInt8).isPrefixOf (b::l)=false:=by simp[List.isPrefixOf,Ne.symm h]
  have hix:Lib.index (b::l) [47]=if Lib.index l [47]== -1 then-1 else Lib.index l [47]+1:=by rw[Lib.index,hp];simp
  by_cases hm:Lib.index l [47]= -1
  ·rw[Lib.splitK,Lib.splitK,hix,hm];rfl
  ·have hge:=Lib.index_ge l [47];obtain⟨j,hj⟩:∃j:Nat,Lib.index l [47]=j:=⟨(Lib.index l [47]).toNat,by omega⟩
   have hix':Lib.index (b::l) [47]=((j+1:Nat):Int):=by rw[hix,if_neg (fun e=>hm (beq_iff_eq.1 e)),hj];omega
   have n1:¬(((j+1:Nat):Int)== -1)=true:=fun e=>by have:=beq_iff_eq.1 e;omega
   have n2:¬((j:Int)== -1)=true:=fun e=>by have:=beq_iff_eq.1 e;omega
   rw[Lib.splitK,Lib.splitK,hix',hj,if_neg n1,if_neg n2,Int.toNat_natCast,Int.toNat_natCast];simp[iy]
theorem xw (k:Nat) (l:List UInt8):Lib.splitK [47] 0 (k+1) (47::l)=[]::Lib.splitK [47] 0 k l:=by
 have hix:Lib.index (47::l) [47]=0:=by rw[Lib.index];simp[List.isPrefixOf]
 rw[Lib.splitK,hix,if_neg (by decide)];simp
theorem tr (l:List UInt8):Lib.splitK [47] 0 (Lib.count l [47]) l=parts l:=by
 induction l with
 |nil=>rw[Lib.count_miss (by simp[Lib.index])];rfl
 |cons b l ih=>
  rw[parts]
  by_cases h:b=47
  ·subst h;rw[if_pos rfl,Lib.count_cons_eq,Nat.add_comm,xw,ih]
  ·rw[if_neg h,Lib.count_cons_ne b 47 l h,xv _ _ _ h,ih]
def oX (l:List UInt8):ByteArray:=⟨l.toArray⟩
theorem rz (s:ByteArray):oX s.data.toList=s:=by simp[oX]
theorem ur (l:List UInt8):(oX l).size=l.length:=by rw[←fj];simp[oX]
theorem uu (l:List UInt8):(oX l).data.toList=l:=by simp[oX]
theorem tt (s:ByteArray):Lib.splitB ⟨#[47]⟩ 0 (Lib.countB s ⟨#[47]⟩) s=(parts s.data.toList).map oX:=by
 have h:=Lib.splitB_data ⟨#[47]⟩ 0 (Lib.countB s ⟨#[47]⟩) s;have hc:Lib.countB s ⟨#[47]⟩=Lib.count s.data.toList [47]:=rfl;rw[show(⟨#[47]⟩:ByteArray).data.toList=[47]from rfl,hc,tr]at h;rw[hc,←h,List.map_map]
 conv=>lhs;rw[←List.map_id (Lib.splitB _ _ _ _)]
 apply List.map_congr_left
 intro x _;exact(rz x).symm
theorem xx (l:List UInt8):∀p∈parts l,p.length≤l.length:=by
 induction l with
 |nil=>intro p hp;simp[parts]at hp;subst hp;simp
 |cons b l ih=>
  intro p hp;rw[parts]at hp
  split at hp
  ·rcases List.mem_cons.1 hp with rfl|hp
   ·simp
   ·have:=ih p hp;simp;omega
  ·cases hX:parts l with
   |nil=>exact absurd hX (lf l)
   |cons q X=>
    rw[hX]at hp ih;rcases List.mem_cons.1 hp with rfl|hp
    ·have:=ih q (List.mem_cons_self ..);simp;omega
    ·have:=ih p (List.mem_cons_of_mem _ hp);simp;omega
theorem sy (l:List UInt8):(parts l).length≤l.length+1:=by
 induction l with
 |nil=>simp[parts]
 |cons b l ih=>
  rw[parts]
  split
  ·simp;omega
  ·cases hX:parts l with
   |nil=>simp[iy]
   |cons q X=>rw[hX]at ih;simp[iy]at ih⊢;omega
def ju (s:ByteArray):List ByteArray×Bool:=
 if s.toList=([47]:List UInt8)then([],true)else
 match(parts s.data.toList).map oX with
 |[]=>([],false)
 |x::l=>if x.toList=[]∧l≠[]∧lT l=true then(l,true)else([],false)
theorem rA (s:ByteArray) (hs:s.size≤1048576):Ev (fun k=>eH.f k s) (ju s):=by
 unfold eH.f ju;refine evI (fun _=>Ev.now _) (fun _=> ?_)
 have h0:strings_Split.f s ⟨#[47]⟩=some ((parts s.data.toList).map oX):=by
  unfold strings_Split.f;rw[if_pos ⟨by omega,by decide⟩,tt]
 simp only[h0,Option.bind_some];have hps:=xx s.data.toList;have hsz:s.data.toList.length=s.size:=fj s;have hpl:=sy s.data.toList
 cases hX:parts s.data.toList with
 |nil=>exact absurd hX (lf _)
 |cons p ps=>
  rw[hX]at hps hpl;rw[List.map_cons];refine bs (by rw[List.length_cons];omega) ?_;have hr:lq ByteArray.empty (oX p::ps.map oX) 0=oX p:=rfl;simp only[hr]
  by_cases c:(oX p).toList=[]
  ·refine bs c ?_
   cases hq:ps with
   |nil=>exact bs (by simp) (eP (Ev.now _) (by simp))
   |cons q qs=>
    rw[←hq]
    have hne:ps.map oX≠[]:=by rw[hq];simp
    have hl:0<ps.length:=by rw[hq];simp
    refine dv (by simp;omega) (bs (by simp;omega) ?_)
    have hn:=vV (ps.map oX) (by
     intro x hx;obtain⟨y,hy,rfl⟩:=List.mem_map.1 hx;rw[ur];have:=hps y (List.mem_cons_of_mem _ hy)
     omega)
    refine Ev.bind hn ?_
    by_cases g:lT (ps.map oX)=true
    ·exact bs g (eP (Ev.now _) (by rw[if_pos ⟨c,hne,g⟩];rfl))
    ·exact dv g (eP (Ev.now _) (by rw[if_neg (fun h=>g h.2.2)]))
  ·exact dv c (eP (Ev.now _) (by rw[if_neg (fun h=>c h.1)]))
def proc:List ByteArray→List (List UInt8)→Option (List ByteArray)
 |out,[]=>some out
 |out,p::ps=>if i_ (oX p)=true then(if out.length=30 then none else proc (out++[oX p]) ps)else none
theorem aci (ps:List (List UInt8)):∀out:List ByteArray,out.length≤30→proc out ps=if(ps.map oX).all i_=true∧out.length+ps.length≤30 then some (out++ps.map oX)else none:=by
 induction ps with
 |nil=>intro out h;simp[proc,h]
 |cons p ps ih=>
  intro out h;rw[proc]
  by_cases c:i_ (oX p)=true
  ·rw[if_pos c]
   by_cases d:out.length=30
   ·rw[if_pos d,if_neg (by simp;omega)]
   ·rw[if_neg d,ih _ (by simp;omega)];simp only[List.map_cons,List.all_cons,c,Bool.true_and,List.length_append,List.length_cons,List.length_nil,List.append_assoc,List.singleton_append]
    congr 1
    simp only[Nat.zero_add,Nat.add_assoc,Nat.add_comm 1]
  ·rw[if_neg c,if_neg (by simp[c])]
def tu (s:ByteArray):Option (List ByteArray)→List ByteArray×Bool
 |none=>([],false)
 |some out=>if s.data.toList.head? =some 47 then(out,true)else([],false)
theorem tv (s:ByteArray) (i:Nat) (h:i<s.size):bt s (i:Int)=((s.data.toList[i]'(by rw[fj];exact h)).toNat:Int):=by
 rw[←hL s (i:Int) (by rw[Int.toNat_natCast];exact h)];simp only[Int.toNat_natCast]
 rfl
theorem u47 (b:UInt8):((b.toNat:Int)=47)↔b=47:=by
 constructor
 ·intro h
  have:b.toNat=47:=by omega
  exact UInt8.toNat_inj.1 (this.trans rfl)
 ·rintro rfl;rfl
theorem nW (s:ByteArray) (out:List ByteArray) (i f:Int) (k:Nat) (h:¬i≤(s.size:Int)):aX.l0 (k+1) s out f i=some (tu s (some out)):=by
 simp only[aX.l0];rw[if_neg h];have hsz:s.data.toList.length=s.size:=fj s
 cases hd:s.data.toList with
 |nil=>
  rw[hd]at hsz;rw[if_pos (by simp at hsz;omega)];simp[tu,hd]
 |cons b l=>
  have hl:0<s.size:=by rw[←hsz,hd];simp
  rw[if_neg (by omega),if_pos (by omega)];have hb:=tv s 0 hl;simp only[hd,List.getElem_cons_zero]at hb;have hb':bt s 0=(b.toNat:Int):=hb;rw[hb']
  by_cases c:b=47
  ·rw[if_pos ((u47 b).2 c)];simp[tu,hd,c]
  ·rw[if_neg (fun h=>c ((u47 b).1 h))];simp[tu,hd,c]
theorem drop_at (s:ByteArray) (i:Nat) (h:i<s.size):s.data.toList.drop i=(s.data.toList[i]'(by rw[fj];exact h))::s.data.toList.drop (i+1):=List.drop_eq_getElem_cons _
theorem nA (s:ByteArray) (hs:s.size≤1048576):∀(n i f:Nat) (out:List ByteArray),1≤i→i≤s.size→f≤i→s.size-i=n→out.length≤30→
  Ev (fun k=>aX.l0 k s out f i) (tu s (proc out (iy ((s.data.toList.drop f).take (i-f)) (parts (s.data.toList.drop i))))):=by
 have hsz:s.data.toList.length=s.size:=fj s;intro n
 induction n with
 |zero=>
  intro i f out h1 hi hf hn ho
  obtain rfl:i=s.size:=by omega
  have hx:(s.extract f s.size)=oX ((s.data.toList.drop f).take (s.size-f)):=by
   rw[←rz (s.extract f s.size)]
   congr 1
   rw[Lib.extract_data]
  have hsl:(s.extract f s.size).size≤9223372036854775807:=by rw[ByteArray.size_extract];omega
  rw[List.drop_eq_nil_of_le (by omega:s.data.toList.length≤s.size)];have hnm:=om (s.extract f s.size) hsl
  apply aV
  simp only[aX.l0];refine bs (by omega) (dv (by omega) ?_)
  apply aV
  simp only[aX.j1];refine dv (by simp) (bs (by omega) (bs (by omega) (bs (by omega) (bs (by omega) ?_))));simp only[Int.toNat_natCast];refine Ev.bind hnm ?_;rw[hx];simp only[parts,iy,List.append_nil,proc]
  by_cases c:i_ (oX ((s.data.toList.drop f).take (s.size-f)))=true
  ·refine bs c ?_;rw[if_pos c]
   by_cases d:out.length=30
   ·rw[if_pos d];exact bs (by omega) (Ev.now _)
   ·rw[if_neg d];refine dv (by omega) (bs (by omega) ?_)
    apply aV
    rw[kT (by omega) (by omega)];simp only[nW s _ _ _ _ (show¬((s.size:Int)+1)≤(s.size:Int) by omega)];exact Ev.now _
  ·rw[if_neg c];exact dv c (Ev.now _)
 |succ n ih=>
  intro i f out h1 hi hf hn ho
  have hlt:i<s.size:=by omega
  have hb:=tv s i hlt;have hd:=drop_at s i hlt;generalize hB:(s.data.toList[i]'(by rw[fj];exact hlt))=B at hb hd
  have hnx:wrap64 ((i:Int)+1)=((i+1:Nat):Int):=by rw[kT (by omega) (by omega)];omega
  have htk:(s.data.toList.drop f).take (i+1-f)=(s.data.toList.drop f).take (i-f)++[B]:=by
   rw[show i+1-f=(i-f)+1 by omega,List.take_succ_eq_append_getElem (by rw[List.length_drop];omega)]
   congr 2
   rw[List.getElem_drop];simp only[show f+(i-f)=i by omega];exact hB
  apply aV
  simp only[aX.l0];refine bs (by omega) (bs (by omega) (bs (by omega) ?_))
  apply aV
  simp only[aX.j1];rw[hb,hnx]
  by_cases c:B=47
  ·have hx:(s.extract f i)=oX ((s.data.toList.drop f).take (i-f)):=by
    rw[←rz (s.extract f i)]
    congr 1
    rw[Lib.extract_data]
   have hsl:(s.extract f i).size≤9223372036854775807:=by rw[ByteArray.size_extract];omega
   have hnm:=om (s.extract f i) hsl;rw[hd,parts,if_pos c];refine dv (by simp[(u47 B).2 c]) (bs (by omega) (bs (by omega) (bs (by omega) (bs (by omega) ?_))));simp only[Int.toNat_natCast];refine Ev.bind hnm ?_;rw[hx];simp only[iy,List.append_nil,proc]
   by_cases cn:i_ (oX ((s.data.toList.drop f).take (i-f)))=true
   ·refine bs cn ?_;rw[if_pos cn]
    by_cases d:out.length=30
    ·rw[if_pos d];exact bs (by omega) (Ev.now _)
    ·rw[if_neg d];refine dv (by omega) (bs (by omega) ?_);have:=ih (i+1) (i+1) (out++[oX ((s.data.toList.drop f).take (i-f))]) (by omega) (by omega) (Nat.le_refl _) (by omega) (by simp;omega);rw[Nat.sub_self,List.take_zero,qp _ (lf _)]at this;exact this
   ·rw[if_neg cn];exact dv cn (Ev.now _)
  ·rw[hd,parts,if_neg c,uq,←htk];refine bs (by simpa using fun h=>c ((u47 B).1 h)) ?_;exact ih (i+1) f out (by omega) (by omega) (by omega) (by omega) ho
theorem rB (s:ByteArray) (hs:s.size≤1048576):Ev (fun k=>aX.f k s) (ju s):=by
 have hsz:s.data.toList.length=s.size:=fj s;unfold aX.f ju;simp only[Option.bind_some];refine evI (fun _=>Ev.now _) (fun _=> ?_)
 cases hd:s.data.toList with
 |nil=>
  rw[hd]at hsz
  have h0:s.size=0:=by simpa using hsz.symm
  apply aV
  simp only[aX.l0];refine bs (by omega) (dv (by omega) ?_)
  apply aV
  simp only[aX.j1];refine dv (by simp) (dv (by omega) ?_)
  apply aV
  simp only[nW s _ _ _ _ (show¬(wrap64 (0+1))≤(s.size:Int) by rw[h0,kT (by omega) (by omega)];omega)];exact eP (Ev.now _) (by simp[tu,hd,parts])
 |cons b l=>
  have hl:0<s.size:=by rw[←hsz,hd];simp
  have hb:=tv s 0 hl;simp only[hd,List.getElem_cons_zero]at hb;have hb':bt s 0=(b.toNat:Int):=hb
  apply aV
  simp only[aX.l0];refine bs (by omega) (bs (by omega) (bs (by omega) ?_))
  apply aV
  simp only[aX.j1];rw[hb',show wrap64 (0+1)=((1:Nat):Int)from kT (by omega) (by omega)]
  by_cases c:b=47
  ·refine dv (by simp[(u47 b).2 c]) (dv (by omega) ?_);have:=nA s hs (s.size-1) 1 1 [] (by omega) (by omega) (Nat.le_refl _) rfl (by simp);refine eP this ?_;rw[Nat.sub_self,List.take_zero,qp _ (lf _),aci _ _ (by simp),hd,parts,if_pos c];simp only[List.drop_succ_cons,List.drop_zero,List.map_cons,List.length_nil,Nat.zero_add,List.nil_append]
   have hne:(parts l).map oX≠[]:=by
    intro h;exact lf l (List.map_eq_nil_iff.1 h)
   have he:(oX []).toList=[]:=by rw[toList_data,uu]
   by_cases g:lT ((parts l).map oX)=true
   ·have g':=g;simp only[lT,List.length_map,Bool.and_eq_true,decide_eq_true_eq]at g';rw[if_pos g',if_pos ⟨he,hne,g⟩];simp[tu,hd,c]
   ·have g':¬(((parts l).map oX).all i_=true∧(parts l).length≤30):=by
     intro h;apply g;simp only[lT,List.length_map,Bool.and_eq_true,decide_eq_true_eq];exact h
    rw[if_neg g',if_neg (fun h=>g h.2.2)]
    rfl
  ·refine bs (by simpa using fun h=>c ((u47 b).1 h)) ?_;have:=nA s hs (s.size-1) 1 0 [] (by omega) (by omega) (by omega) rfl (by simp);refine eP this ?_
   have hf:∀x,tu s x=([],false):=by
    intro x
    cases x with
    |none=>rfl
    |some out=>simp[tu,hd,c]
   rw[hf,parts,if_neg c]
   cases hX:parts l with
   |nil=>exact absurd hX (lf l)
   |cons p ps=>
    simp only[iy,List.map_cons];rw[if_neg];intro h;have:=h.1;rw[toList_data,uu]at this;simp at this
end Go.Proofs.YtlecajlnjmbilaaGreatDoor.Q
namespace Go.Proofs.YtlecajlnjmbilaaGreatDoor.Q
open Go.RowKit Go.Proofs.YtlecajlnjmbilaaGreatDoor.P Go.Proofs.ae.au Go.Proofs.ae.ba Go.Proofs.ae.bg
theorem vW (l:List (List UInt8)):sx (l.map oX)=(l.map List.length).sum:=by
 unfold sx;rw[List.map_map];exact congrArg List.sum (List.map_congr_left fun x _=>ur x)
theorem xy (l:List UInt8):((parts l).map List.length).sum≤l.length:=by
 induction l with
 |nil=>simp[parts]
 |cons b l ih=>
  rw[parts]
  split
  ·simp;omega
  ·cases hX:parts l with
   |nil=>exact absurd hX (lf l)
   |cons q X=>rw[hX]at ih;simp[iy]at ih⊢;omega
theorem qq (s:ByteArray):(ju s).1.length≤s.size∧sx (ju s).1≤s.size:=by
 have h1:=sy s.data.toList;have h2:=xy s.data.toList;rw[fj]at h1 h2;unfold ju
 split
 ·simp[sx]
 ·split
  ·simp[sx]
  ·rename_i x l hX
   split
   ·cases hP:parts s.data.toList with
    |nil=>exact absurd hP (lf _)
    |cons p ps=>
     rw[hP]at hX h1 h2;simp only[List.map_cons,List.cons.injEq]at hX;obtain⟨_,rfl⟩:=hX;simp only[List.length_map,vW];simp only[List.map_cons,List.sum_cons,List.length_cons]at h1 h2
     omega
   ·simp[sx]
end Go.Proofs.YtlecajlnjmbilaaGreatDoor.Q
namespace Go.Proofs.YtlecajlnjmbilaaGreatDoor.Q
open Go.RowKit Go.Proofs.YtlecajlnjmbilaaGreatDoor.P Go.Proofs.ae.au Go.Proofs.ae.ba Go.Proofs.ae.bg
def sA (T:List bh):List ByteArray→Int→Int×Int
 |[],ino=>(ino,0)
 |n::l,ino=>if eN T ino=true then(if(fN T ino).f1=2 then(if pH n (fN T ino).f4=0 then(0,2)else sA T l (pH n (fN T ino).f4))else(0,3))else(0,2)
def nB (T:List bh) (s:ByteArray):Int×Int:=if(ju s).2=true then sA T (ju s).1 1 else(0,1)
theorem uv {γ:Type}(L:Nat→Int→Int→Option γ) (xs:List ByteArray) (F:List ByteArray→Int→γ) (h1:∀ino,Ev (fun k=>L k ino (xs.length:Nat)) (F [] ino))
  (h2:∀(i:Nat) (hi:i<xs.length) (ino:Int),(∀aea,Ev (fun k=>L k aea ((i+1:Nat):Int)) (F (xs.drop (i+1)) aea))→Ev (fun k=>L k ino (i:Nat)) (F (xs[i]::xs.drop (i+1)) ino)) (ino:Int):Ev (fun k=>L k ino 0) (F xs ino):=by
 have key:∀m i:Nat,xs.length-i=m→i≤xs.length→∀ino,Ev (fun k=>L k ino (i:Nat)) (F (xs.drop i) ino):=by
  intro m
  induction m with
  |zero=>
   intro i hm hi ino
   obtain rfl:i=xs.length:=by omega
   rw[List.drop_length];exact h1 ino
  |succ m ih=>
   intro i hm hi ino;rw[List.drop_eq_getElem_cons (by omega)];exact h2 i (by omega) ino (ih (i+1) (by omega) (by omega))
 simpa using key xs.length 0 (by omega) (by omega) ino
theorem xz (T:List bh) (nx:Int) (s:ByteArray) (hT:T.length≤1048576) (hs:∀x∈T,gv x) (h:s.size≤1048576):Ev (fun k=>eO.f k T nx s) (nB T s):=by
 unfold eO.f nB;refine Ev.bind (rA s h) ?_;have hl:=(qq s).1;generalize ju s=p at*;refine evI (fun _=> ?_) (fun _=>Ev.now _);refine uv (fun k ino i=>eO.l0 k ino p.1 p.1.length i T nx) p.1 (sA T) (fun ino=> ?_) (fun i hi ino ih=> ?_) 1
 ·apply aV
  simp only[eO.l0];exact dv (by omega) (Ev.now _)
 ·have hx:=iQ T ino hs
  apply aV
  simp only[eO.l0,sA];rw[ad9 i p.1.length hi (by omega),rdS p.1 i hi];refine bs (by omega) (bs (by omega) (bs (by omega) (Ev.bind (nq T nx ino hT hs) ?_)));refine evI (fun _=>evI (fun _=> ?_) (fun _=>Ev.now _)) (fun _=>Ev.now _);refine Ev.bind (vU _ _ _ _ _ _ p.1[i] (by have:=hx.e;dsimp only;omega)) ?_;exact evI (fun _=>Ev.now _) (fun _=>ih _)
theorem xA (T:List bh) (nx:Int) (s:ByteArray) (hT:T.length≤1048576) (hs:∀x∈T,gv x) (h:s.size≤1048576):Ev (fun k=>jv.f k T nx s) (nB T s):=by
 unfold jv.f nB;refine Ev.bind (rB s h) ?_;have hl:=(qq s).1;generalize ju s=p at*;refine evI (fun _=> ?_) (fun _=>Ev.now _);unfold cL.f;refine Ev.bind (uv (fun k ino i=>cL.l0 k p.1 ino i T nx) p.1 (sA T) (fun ino=> ?_) (fun i hi ino ih=> ?_) 1) (Ev.now _)
 ·apply aV
  simp only[cL.l0];exact dv (by omega) (Ev.now _)
 ·have hx:=iQ T ino hs;have hr:=la ino T 0
  apply aV
  simp only[cL.l0,sA];rw[ad9 i p.1.length hi (by omega),rdS p.1 i hi];refine bs (by omega) (Ev.bind (oo T nx ino hT) ?_)
  by_cases c:cE ino T 0<0
  ·have hn:¬eN T ino=true:=by simp only[eN,decide_eq_true_eq];omega
   rw[if_neg hn];exact bs c (Ev.now _)
  ·have hy:eN T ino=true:=by simp only[eN,decide_eq_true_eq];omega
   have hi':fN T ino=af T (cE ino T 0):=by simp only[fN,if_neg c]
   rw[if_pos hy,hi'];rw[hi']at hx;refine dv c (bs (by omega) (bs (by omega) (evI (fun _=>bs (by omega) ?_) (fun _=>Ev.now _))));refine Ev.bind (vT _ _ _ _ _ _ p.1[i] (by have:=hx.e;omega)) ?_;exact evI (fun _=>Ev.now _) (fun _=>ih _)
end Go.Proofs.YtlecajlnjmbilaaGreatDoor.Q
namespace Go.Proofs.YtlecajlnjmbilaaGreatDoor.Q
open Go.RowKit Go.Proofs.YtlecajlnjmbilaaGreatDoor.P Go.Proofs.ae.au Go.Proofs.ae.ba Go.Proofs.ae.bg
def tw:bh:=⟨0,0,0,[],[],[]⟩
def ki (T:List bh) (s:ByteArray):bh×Int:=
 if(nB T s).2=0 then(if eN T (nB T s).1=true then(fN T (nB T s).1,0)else(tw,2))else(tw,(nB T s).2)
def wH (p:bh×Int):Int×Int×Int×List Int×List eb×List eh×Int:=(p.1.f0,p.1.f1,p.1.f2,p.1.f3,p.1.f4,p.1.f5,p.2)
theorem qt (T:List bh) (s:ByteArray) (hs:∀x∈T,gv x):gv (ki T s).1:=by
 unfold ki
 split
 ·split
  ·exact iQ T _ hs
  ·exact⟨by simp[tw],by simp[tw],by simp[tw]⟩
 ·exact⟨by simp[tw],by simp[tw],by simp[tw]⟩
theorem xB (T:List bh) (nx:Int) (s:ByteArray) (hT:T.length≤1048576) (hs:∀x∈T,gv x) (h:s.size≤1048576):Ev (fun k=>jw.f k T nx s) (wH (ki T s)):=by
 unfold jw.f;refine Ev.bind (xz T nx s hT hs h) ?_
 by_cases c:(nB T s).2=0
 ·refine bs c (Ev.bind (nq T nx _ hT hs) ?_)
  by_cases d:eN T (nB T s).1=true
  ·exact bs d (eP (Ev.now _) (by simp only[ki,wH,if_pos c,if_pos d]))
  ·exact dv d (eP (Ev.now _) (by simp only[ki,wH,if_pos c,if_neg d];rfl))
 ·exact dv c (eP (Ev.now _) (by simp only[ki,wH,if_neg c];rfl))
theorem xC (T:List bh) (nx:Int) (s:ByteArray) (hT:T.length≤1048576) (hs:∀x∈T,gv x) (h:s.size≤1048576):Ev (fun k=>jx.f k T nx s) (wH (ki T s)):=by
 unfold jx.f;refine Ev.bind (xA T nx s hT hs h) ?_
 by_cases c:(nB T s).2=0
 ·refine bs c (Ev.bind (pG T nx _ hT hs) ?_)
  by_cases d:eN T (nB T s).1=true
  ·exact bs d (eP (Ev.now _) (by simp only[ki,wH,if_pos c,if_pos d]))
  ·exact dv d (eP (Ev.now _) (by simp only[ki,wH,if_pos c,if_neg d];rfl))
 ·exact dv c (eP (Ev.now _) (by simp only[ki,wH,if_neg c];rfl))
end Go.Proofs.YtlecajlnjmbilaaGreatDoor.Q
namespace Go.Proofs.YtlecajlnjmbilaaGreatDoor.Q
open Go.RowKit Go.Proofs.YtlecajlnjmbilaaGreatDoor.P Go.Proofs.ae.au Go.Proofs.ae.ba Go.Proofs.ae.bg
theorem vX:∀(a b:List Int),a.Pairwise (·<·)→b.Pairwise (·<·)→(∀x,x∈a↔x∈b)→a=b
 |[],[],_,_,_=>rfl
 |[],y::b,_,_,h=>absurd ((h y).2 (List.mem_cons_self ..)) (by simp)
 |x::a,[],_,_,h=>absurd ((h x).1 (List.mem_cons_self ..)) (by simp)
 |x::a,y::b,ha,hb,h=>by
  obtain⟨ha1,ha2⟩:=List.pairwise_cons.1 ha;obtain⟨hb1,hb2⟩:=List.pairwise_cons.1 hb
  have hxy:x=y:=by
   rcases List.mem_cons.1 ((h x).1 (List.mem_cons_self ..))with h1|h1
   ·exact h1
   ·rcases List.mem_cons.1 ((h y).2 (List.mem_cons_self ..))with h2|h2
    ·exact h2.symm
    ·have:=hb1 x h1;have:=ha1 y h2;omega
  subst hxy;rw[vX a b ha2 hb2 (fun z=> ?_)]
  constructor
  ·intro hz;rcases List.mem_cons.1 ((h z).1 (List.mem_cons_of_mem _ hz))with rfl|h1
   ·have:=ha1 z hz;omega
   ·exact h1
  ·intro hz;rcases List.mem_cons.1 ((h z).2 (List.mem_cons_of_mem _ hz))with rfl|h1
   ·have:=hb1 z hz;omega
   ·exact h1
theorem xD (l:List Int) (x:Int):x∈nw l↔x∈l:=List.mem_mergeSort ..
theorem abw (l:List Int) (h:l.Nodup):(nw l).Pairwise (·<·):=by
 have h1:(nw l).Pairwise fun x y=>decide (x≤y)=true:=List.pairwise_mergeSort (fun a b c h1 h2=>by simp at*;omega) (fun a b=>by simp;omega) l
 have h2:(nw l).Nodup:=(List.mergeSort_perm l _).nodup_iff.2 h;exact(h1.and h2).imp (fun⟨a,b⟩=>by simp at a;omega)
def tA (xs:List Int) (n:Int):Nat→Nat
 |0=>0
 |k+1=>if xs.getD k 0>n then tA xs n k else k+1
def rC (xs:List Int) (n:Int):List Int:=if n∈xs then xs else xs.take (tA xs n xs.length)++[n]++xs.drop (tA xs n xs.length)
theorem abx (xs:List Int) (n:Int):∀k,tA xs n k≤k
 |0=>Nat.le_refl _
 |k+1=>by rw[tA];split;exact Nat.le_succ_of_le (abx xs n k);exact Nat.le_refl _
theorem uw (xs:List Int) (n x:Int):x∈rC xs n↔x∈xs∨x=n:=by
 unfold rC
 split
 ·constructor
  ·exact .inl
  ·rintro(h|rfl)<;>assumption
 ·rw[List.mem_append,List.mem_append,List.mem_singleton]
  conv=>rhs;rw[←List.take_append_drop (tA xs n xs.length) xs,List.mem_append]
  constructor
  ·rintro((h|h)|h)
   ·exact .inl (.inl h)
   ·exact .inr h
   ·exact .inl (.inr h)
  ·rintro((h|h)|h)
   ·exact .inl (.inl h)
   ·exact .inr h
   ·exact .inl (.inr h)
theorem aby (xs:List Int) (n:Int):∀k,k≤xs.length→∀j,tA xs n k≤j→j<k→xs.getD j 0>n
 |0,_,j,_,h=>by omega
 |k+1,hk,j,h1,h2=>by
  rw[tA]at h1
  split at h1
  ·rcases Nat.lt_or_ge j k with h|h
   ·exact aby xs n k (by omega) j h1 h
   ·obtain rfl:j=k:=by omega
    assumption
  ·omega
theorem abz (xs:List Int) (n:Int):∀k,0<tA xs n k→¬xs.getD (tA xs n k-1) 0>n
 |0,h=>by simp[tA]at h
 |k+1,h=>by
  rw[tA]at h⊢
  split
  ·rename_i hc;rw[if_pos hc]at h;exact abz xs n k h
  ·rename_i hc;simpa using hc
theorem wI (xs:List Int) (n:Int) (h:xs.Pairwise (·<·)):(rC xs n).Pairwise (·<·):=by
 unfold rC
 split
 ·exact h
 ·rename_i hn
  have hle:=abx xs n xs.length;have hgt:=aby xs n xs.length (Nat.le_refl _);have hat:=abz xs n xs.length;generalize tA xs n xs.length=j at hle hgt hat;have hp:=List.pairwise_iff_getElem.1 h
  have h1:∀a∈xs.take j,a<n:=fun a ha=>by
   obtain⟨i,hi,rfl⟩:=List.getElem_of_mem ha;rw[List.length_take]at hi;rw[List.getElem_take];have hj:=hat (by omega);rw[List.getD_eq_getElem?_getD,List.getElem?_eq_getElem (by omega),Option.getD_some]at hj
   have hne:xs[j-1]≠n:=fun e=>hn (e▸List.getElem_mem _)
   rcases Nat.lt_or_ge i (j-1)with hl|hg
   ·have:=hp i (j-1) (by omega) (by omega) hl;omega
   ·obtain rfl:i=j-1:=by omega
    omega
  have h2:∀b∈xs.drop j,n<b:=fun b hb=>by
   obtain⟨i,hi,rfl⟩:=List.getElem_of_mem hb;rw[List.length_drop]at hi;rw[List.getElem_drop];have:=hgt (j+i) (by omega) (by omega);rw[List.getD_eq_getElem?_getD,List.getElem?_eq_getElem (by omega),Option.getD_some]at this;exact this
  rw[List.pairwise_append,List.pairwise_append];refine⟨⟨h.sublist (List.take_sublist ..),List.pairwise_singleton ..,fun a ha b hb=>by rw[List.mem_singleton.1 hb];exact h1 a ha⟩,h.sublist (List.drop_sublist ..),fun a ha b hb=> ?_⟩;rcases List.mem_append.1 ha with ha|ha
  ·have:=h1 a ha;have:=h2 b hb;omega
  ·rw[List.mem_singleton.1 ha];exact h2 b hb
end Go.Proofs.YtlecajlnjmbilaaGreatDoor.Q
namespace Go.Proofs.YtlecajlnjmbilaaGreatDoor.Q
open Go.RowKit Go.Proofs.YtlecajlnjmbilaaGreatDoor.P Go.Proofs.ae.au Go.Proofs.ae.ba Go.Proofs.ae.bg
theorem oq:∀(xs U:List Int),xs.Nodup→(∀x∈xs,x∈U)→xs.length≤U.length
 |[],_,_,_=>Nat.zero_le _
 |x::xs,U,h,hs=>by
  obtain⟨h1,h2⟩:=List.nodup_cons.1 h;have hx:=hs x (List.mem_cons_self ..);have:=oq xs (U.erase x) h2 (fun y hy=>(List.mem_erase_of_ne (fun(e:y=x)=>h1 (e▸hy))).2 (hs y (List.mem_cons_of_mem _ hy)));rw[List.length_erase_of_mem hx]at this;have:=List.length_pos_of_mem hx;simp only[List.length_cons]
  omega
theorem sB (xs U:List Int) (h:xs.Nodup) (hs:∀x∈xs,x∈U) (hl:U.length≤xs.length):∀y∈U,y∈xs:=fun y hy=>by
 apply Classical.byContradiction
 intro hn
 have:=oq (y::xs) U (List.nodup_cons.2 ⟨hn,h⟩) (fun z hz=>by
  rcases List.mem_cons.1 hz with rfl|hz
  ·exact hy
  ·exact hs z hz)
 simp only[List.length_cons]at this
 omega
theorem rD {l:List Int}(h:l.Pairwise (·<·)):l.Nodup:=h.imp (fun h e=>by omega)
section
variable (ex:Int→Bool) (kids:Int→List Int)
def nr (out es:List Int):List Int:=es.foldl (fun o e=>if ex e=true then rC o e else o) out
def oG (xs:List Int):List Int:=nr ex xs (xs.flatMap kids)
def xL:Nat→List Int→List Int
 |0,xs=>xs
 |n+1,xs=>xL n (oG ex kids xs)
def ux (xs:List Int):Prop:=∀x∈xs,∀y∈kids x,ex y=true→y∈xs
theorem uy (es:List Int):∀(out:List Int) (x:Int),x∈nr ex out es↔x∈out∨(x∈es∧ex x=true):=by
 induction es with
 |nil=>intro out x;simp[nr]
 |cons e es ih=>
  intro out x
  show x∈nr ex (if ex e=true then rC out e else out) es↔_
  rw[ih]
  by_cases c:ex e=true
  ·rw[if_pos c,uw,List.mem_cons]
   constructor
   ·rintro((h|rfl)|⟨h,k⟩)
    ·exact .inl h
    ·exact .inr ⟨.inl rfl,c⟩
    ·exact .inr ⟨.inr h,k⟩
   ·rintro(h|⟨rfl|h,k⟩)
    ·exact .inl (.inl h)
    ·exact .inl (.inr rfl)
    ·exact .inr ⟨h,k⟩
  ·rw[if_neg c,List.mem_cons]
   constructor
   ·rintro(h|⟨h,k⟩)
    ·exact .inl h
    ·exact .inr ⟨.inr h,k⟩
   ·rintro(h|⟨rfl|h,k⟩)
    ·exact .inl h
    ·exact absurd k c
    ·exact .inr ⟨h,k⟩
theorem qM (es:List Int):∀(out:List Int),out.Pairwise (·<·)→(nr ex out es).Pairwise (·<·):=by
 induction es with
 |nil=>intro out h;exact h
 |cons e es ih=>
  intro out h
  show(nr ex (if ex e=true then rC out e else out) es).Pairwise (·<·)
  refine ih _ ?_
  split
  ·exact wI out e h
  ·exact h
theorem lK (xs:List Int) (y:Int):y∈oG ex kids xs↔y∈xs∨((∃x∈xs,y∈kids x)∧ex y=true):=by
 unfold oG;rw[uy,List.mem_flatMap]
theorem abA:∀n (xs:List Int),xs.Pairwise (·<·)→(xL ex kids n xs).Pairwise (·<·)
 |0,_,h=>h
 |n+1,xs,h=>abA n _ (qM ex _ _ h)
theorem wJ:∀n (xs:List Int),∀x∈xs,x∈xL ex kids n xs
 |0,_,_,h=>h
 |n+1,xs,x,h=>wJ n _ x ((lK ex kids xs x).2 (.inl h))
theorem abB (K:List Int) (hK:ux ex kids K):∀n (xs:List Int),(∀x∈xs,x∈K)→∀x∈xL ex kids n xs,x∈K
 |0,_,h=>h
 |n+1,xs,h=>abB K hK n _ (fun x hx=>by
  rcases(lK ex kids xs x).1 hx with hx|⟨⟨z,hz,hk⟩,he⟩
  ·exact h x hx
  ·exact hK z (h z hz) x hk he)
theorem wK (xs:List Int) (h:oG ex kids xs=xs):∀n,xL ex kids n xs=xs
 |0=>rfl
 |n+1=>by rw[xL,h];exact wK xs h n
theorem uz (U:List Int) (hU:∀y,ex y=true→y∈U):∀n (xs:List Int),xs.Pairwise (·<·)→(∀x∈xs,x∈U)→U.length≤xs.length+n→ux ex kids (xL ex kids n xs)
 |0,xs,h,hs,hl=>fun x _ y _ he=>sB xs U (rD h) hs hl y (hU y he)
 |n+1,xs,h,hs,hl=>by
  by_cases c:oG ex kids xs=xs
  ·rw[wK ex kids xs c];intro x hx y hy he;rw[←c];exact(lK ex kids xs y).2 (.inr ⟨⟨x,hx,hy⟩,he⟩)
  ·refine uz U hU n _ (qM ex _ _ h) (fun x hx=> ?_) ?_
   ·rcases(lK ex kids xs x).1 hx with hx|⟨_,he⟩
    ·exact hs x hx
    ·exact hU x he
   ·have:xs.length<(oG ex kids xs).length:=by
     apply Classical.byContradiction
     intro hn;refine c (vX _ _ (qM ex _ _ h) h (fun x=>⟨fun hx=> ?_,fun hx=>(lK ex kids xs x).2 (.inl hx)⟩));exact sB xs (oG ex kids xs) (rD h) (fun y hy=>(lK ex kids xs y).2 (.inl hy)) (by omega) x hx
    omega
theorem vY (U out:List Int) (hU:∀y,ex y=true→y∈U) (h1:ex 1=true) (hn:out.Nodup) (ho:ux ex kids out) (h1o:1∈out) (hmin:∀K:List Int,ux ex kids K→1∈K→∀x∈out,x∈K):
  nw out=xL ex kids U.length [1]:=by
 have hs:=uz ex kids U hU U.length [1] (List.pairwise_singleton ..) (fun x hx=>by rw[List.mem_singleton.1 hx];exact hU 1 h1) (by omega);refine vX _ _ (abw out hn) (abA ex kids _ _ (List.pairwise_singleton ..)) (fun x=> ?_);rw[xD];exact⟨hmin _ hs (wJ ex kids _ _ 1 (List.mem_singleton.2 rfl)) x,abB ex kids out ho _ _ (fun y hy=>by rw[List.mem_singleton.1 hy];exact h1o) x⟩
end
end Go.Proofs.YtlecajlnjmbilaaGreatDoor.Q
namespace Go.Proofs.YtlecajlnjmbilaaGreatDoor.Q
open Go.RowKit Go.Proofs.YtlecajlnjmbilaaGreatDoor.P Go.Proofs.ae.au Go.Proofs.ae.ba Go.Proofs.ae.bg
theorem rdI (xs:List Int) (i:Nat) (h:i<xs.length):rd xs (i:Int)=xs[i]:=by
 simp[rd,List.getD_eq_getElem?_getD,List.getElem?_eq_getElem h]
theorem abC (xs:List Int) (n:Int) (hl:xs.length≤9223372036854775807):Ev (fun k=>ez.f k xs n) (decide (n∈xs)):=by
 have key:=down (n:=xs.length) (P:=fun i=>Ev (fun k=>ez.l0 k xs n (i:Nat)) (decide (n∈xs.drop i))) (by
   apply aV
   simp only[ez.l0,List.drop_length]
   exact dv (by omega) (eP (Ev.now _) (by simp))) (fun i hi h=>by
   apply aV
   simp only[ez.l0,rdI xs i hi];rw[my i xs.length hi hl,List.drop_eq_getElem_cons hi];refine bs (by omega) (bs (by omega) ?_)
   by_cases c:xs[i]=n
   ·exact bs c (eP (Ev.now _) (by simp[c]))
   ·exact dv c (eP h (decide_eq_decide.2 ⟨fun h=>List.mem_cons_of_mem _ h,fun h=>(List.mem_cons.1 h).resolve_left (fun e=>c e.symm)⟩)))
 simpa [ez.f]using key
theorem vZ (xs:List Int) (n:Int) (hl:xs.length≤17592186044415):∀(j:Nat),j≤xs.length→∀c:Int,Ev (fun k=>da.l0 k n (xs.take j++[c]++xs.drop j) (j:Nat)) (xs.take (tA xs n j)++[n]++xs.drop (tA xs n j)):=by
 have hset:∀(j:Nat) (c m:Int),j≤xs.length→(xs.take j++[c]++xs.drop j).set j m=xs.take j++[m]++xs.drop j:=fun j c m hj=>by
  have ht:(xs.take j).length=j:=by rw[List.length_take];omega
  rw[List.append_assoc,List.set_append_right _ _ (by omega),ht,Nat.sub_self,List.append_assoc];rfl
 have hlen:∀(j:Nat) (c:Int),j≤xs.length→(xs.take j++[c]++xs.drop j).length=xs.length+1:=fun j c hj=>by
  simp only[List.length_append,List.length_take,List.length_drop,List.length_singleton];omega
 intro j
 induction j with
 |zero=>
  intro hj c
  apply aV
  simp only[da.l0,hlen 0 c hj,Int.toNat_natCast,hset 0 c n hj,tA];exact dv (by omega) (bs (by omega) (bs (by omega) (Ev.now _)))
 |succ j ih=>
  intro hj c
  have hw:wrap64 (((j+1:Nat):Int)-1)=(j:Nat):=by rw[show((j+1:Nat):Int)-1=(j:Nat) by omega];exact kT (by omega) (by omega)
  have hr:rd (xs.take (j+1)++[c]++xs.drop (j+1)) (j:Nat)=xs[j]:=by
   rw[rdI _ j (by rw[hlen _ _ hj];omega)];rw[List.getElem_append_left (by simp only[List.length_append,List.length_take,List.length_singleton];omega),List.getElem_append_left (by rw[List.length_take];omega),List.getElem_take]
  apply aV
  simp only[da.l0,hw,hr,hlen _ c hj,Int.toNat_natCast,hset (j+1) c _ hj];refine bs (by omega) (bs (by omega) (bs (by omega) ?_))
  have hg:xs.getD j 0=xs[j]:=by rw[List.getD_eq_getElem?_getD,List.getElem?_eq_getElem (by omega)];rfl
  by_cases cc:xs[j]>n
  ·refine bs cc (bs (by omega) (bs (by omega) ?_))
   have e:xs.take (j+1)++[xs[j]]++xs.drop (j+1)=xs.take j++[xs[j]]++xs.drop j:=by
    rw[List.take_succ_eq_append_getElem (by omega),List.append_assoc,List.append_assoc,List.append_assoc,List.drop_eq_getElem_cons (i:=j) (by omega)];rfl
   rw[e,tA,if_pos (by rw[hg];exact cc)];exact ih (by omega) _
  ·refine dv cc (bs (by omega) (bs (by omega) (eP (Ev.now _) ?_)));rw[tA,if_neg (by rw[hg];exact cc)]
theorem abD (xs:List Int) (n:Int) (hl:xs.length≤17592186044414):Ev (fun k=>da.f k xs n) (rC xs n):=by
 unfold da.f;refine Ev.bind (abC xs n (by omega)) ?_
 by_cases c:n∈xs
 ·refine bs (by simp[c]) (eP (Ev.now _) ?_);unfold rC;rw[if_pos c]
 ·refine dv (by simp[c]) ?_;simp only[Option.bind_some,List.nil_append,List.length_nil];refine bs (by omega) (bs (by omega) ?_);have h:=vZ xs n (by omega) xs.length (Nat.le_refl _) n;rw[List.take_length,List.drop_length,List.append_nil]at h
  have hw:wrap64 (((xs++[n]).length:Int)-1)=(xs.length:Nat):=by
   rw[List.length_append,List.length_singleton,show((xs.length+1:Nat):Int)-1=(xs.length:Nat) by omega];exact kT (by omega) (by omega)
  rw[hw];refine eP h ?_;unfold rC;rw[if_neg c]
end Go.Proofs.YtlecajlnjmbilaaGreatDoor.Q
namespace Go.Proofs.YtlecajlnjmbilaaGreatDoor.Q
open Go.RowKit Go.Proofs.YtlecajlnjmbilaaGreatDoor.P Go.Proofs.ae.au Go.Proofs.ae.ba Go.Proofs.ae.bg
def ja (l:List bh) (n:Int):List Int:=if eN l n=true∧(fN l n).f1=2 then(fN l n).f4.map (·.f1)else []
theorem v_ (l:List bh) (n:Int) (h:eN l n=true):n∈l.map (·.f0):=by
 apply Classical.byContradiction
 intro hn;have:=tX n l 0 (fun x hx e=>hn (List.mem_map.2 ⟨x,hx,e⟩));unfold eN at h;rw[this]at h;simp at h
structure pI (l:List bh) (xs:List Int):Prop where
 lt:xs.Pairwise (·<·)
 ex:∀x∈xs,eN l x=true
theorem pI.len {l:List bh}{xs:List Int}(h:pI l xs):xs.length≤l.length:=by
 have:=oq xs (l.map (·.f0)) (rD h.lt) (fun x hx=>v_ l x (h.ex x hx))
 rwa [List.length_map]at this
theorem pI.put {l:List bh}{xs:List Int}(h:pI l xs) (n:Int) (hn:eN l n=true):pI l (rC xs n):=
 ⟨wI xs n h.lt,fun x hx=>by rcases(uw xs n x).1 hx with hx|rfl;exact h.ex x hx;exact hn⟩
theorem xE (l:List bh) (nx:Int) (xs:List Int) (i:Int) (x:bh) (R:List Int) (hl:l.length≤1048576) (he:x.f4.length≤1048576) (hk:x.f1=2)
  (fin:List Int) (hfin:Ev (fun k=>az.l0 k xs fin (wrap64 (i+1)) l nx) R):
  ∀(m:Nat),m≤x.f4.length→∀out,pI l out→nr (eN l) out ((x.f4.drop (x.f4.length-m)).map (·.f1))=fin→Ev (fun k=>az.l1 k xs out i true ((x.f4.length-m:Nat):Int) l nx x.f0 x.f1 x.f2 x.f3 x.f4 x.f5) R:=by
 intro m
 induction m with
 |zero=>
  intro _ out ho hf;rw[Nat.sub_zero,List.drop_length]at hf;have hf':out=fin:=hf;subst hf'
  apply aV
  simp only[az.l1,Nat.sub_zero];refine dv (by omega) ?_
  apply aV
  simp only[az.j2];exact dv (by decide) hfin
 |succ m ih=>
  intro hm out ho hf
  have hj:x.f4.length-(m+1)<x.f4.length:=by omega
  have hrd:al x.f4 ((x.f4.length-(m+1):Nat):Int)=x.f4[x.f4.length-(m+1)]:=getD_at x.f4 _ _ hj;rw[List.drop_eq_getElem_cons hj,show x.f4.length-(m+1)+1=x.f4.length-m by omega]at hf
  apply aV
  simp only[az.l1];refine bs (by omega) (bs trivial ?_)
  apply aV
  simp only[az.j2,hrd];rw[my _ x.f4.length hj (by omega),show x.f4.length-(m+1)+1=x.f4.length-m by omega];refine bs (by simp[hk]) (bs (by omega) (bs (by omega) (Ev.bind (oo l nx _ hl) ?_)))
  by_cases c:0≤cE x.f4[x.f4.length-(m+1)].f1 l 0
  ·have hx:eN l x.f4[x.f4.length-(m+1)].f1=true:=decide_eq_true c;have hlen:=ho.len;refine bs c (Ev.bind (abD out _ (by omega)) (ih (by omega) _ (ho.put _ hx) ?_));rw[←hf];simp only[nr,List.map_cons,List.foldl_cons,if_pos hx]
  ·have hx:¬eN l x.f4[x.f4.length-(m+1)].f1=true:=by unfold eN;simpa using c
   refine dv c (ih (by omega) _ ho ?_);rw[←hf];simp only[nr,List.map_cons,List.foldl_cons,if_neg hx]
theorem xF (l:List bh) (nx:Int) (xs:List Int) (i:Int) (x:bh) (ok:Bool) (R out:List Int) (hno:¬(ok=true∧x.f1=2)) (hfin:Ev (fun k=>az.l0 k xs out (wrap64 (i+1)) l nx) R):
  Ev (fun k=>az.l1 k xs out i ok 0 l nx x.f0 x.f1 x.f2 x.f3 x.f4 x.f5) R:=by
 apply aV
 simp only[az.l1];refine ug (fun _=>ug (fun hk=> ?_) (fun _=> ?_)) (fun _=> ?_)
 ·apply aV
  simp only[az.j2];exact dv (by have:x.f1≠2:=fun e=>hno ⟨hk,e⟩;simpa using this) hfin
 ·apply aV
  simp only[az.j2];exact dv (by decide) hfin
 ·apply aV
  simp only[az.j2];exact dv (by decide) hfin
theorem uA (ex:Int→Bool) (out a b:List Int):nr ex out (a++b)=nr ex (nr ex out a) b:=List.foldl_append
theorem pI.add {l:List bh}{out:List Int}(h:pI l out) (es:List Int):pI l (nr (eN l) out es):=
 ⟨qM _ _ _ h.lt,fun x hx=>by rcases(uy (eN l) es out x).1 hx with hx|⟨_,hx⟩;exact h.ex x hx;exact hx⟩
theorem xG (l:List bh) (nx:Int) (xs:List Int) (hl:l.length≤1048576) (hs:∀x∈l,gv x) (hx:pI l xs):Ev (fun k=>az.f k l nx xs) (oG (eN l) (ja l) xs):=by
 have hlen:=hx.len
 have key:=down (n:=xs.length) (P:=fun i=>Ev (fun k=>az.l0 k xs (nr (eN l) xs ((xs.take i).flatMap (ja l))) (i:Nat) l nx) (oG (eN l) (ja l) xs)) (by
   apply aV
   simp only[az.l0,List.take_length]
   exact dv (by omega) (Ev.now _)) (fun i hi h=>by
   have hrd:=rdI xs i hi
   have hst:nr (eN l) xs ((xs.take (i+1)).flatMap (ja l))=nr (eN l) (nr (eN l) xs ((xs.take i).flatMap (ja l))) (ja l xs[i]):=by
    rw[List.take_succ_eq_append_getElem hi,List.flatMap_append,uA];simp
   rw[hst]at h;have ho:=hx.add ((xs.take i).flatMap (ja l));generalize nr (eN l) xs ((xs.take i).flatMap (ja l))=out at h ho⊢
   apply aV
   simp only[az.l0,hrd];refine bs (by omega) (bs (by omega) (Ev.bind (pG l nx xs[i] hl hs) ?_));have hsm:=iQ l xs[i] hs;rw[←my i xs.length hi (by omega)]at h;dsimp only
   by_cases c:eN l xs[i]=true∧(fN l xs[i]).f1=2
   ·have hk:ja l xs[i]=(fN l xs[i]).f4.map (·.f1):=if_pos c;rw[hk]at h;have:=xE l nx xs i (fN l xs[i]) _ hl hsm.e c.2 _ h _ (Nat.le_refl _) out ho (by rw[Nat.sub_self,List.drop_zero]);rw[Nat.sub_self]at this;rw[c.1];exact this
   ·have hk:ja l xs[i]=[]:=if_neg c;rw[hk]at h
    exact xF l nx xs i (fN l xs[i]) _ _ out c h)
 simpa [az.f,nr]using key
theorem pI.next {l:List bh}{xs:List Int}(h:pI l xs):pI l (oG (eN l) (ja l) xs):=h.add _
theorem tx (l:List bh) (nx:Int) (hl:l.length≤1048576) (hs:∀x∈l,gv x):Ev (fun k=>dr.f k l nx) (if eN l 1=true then xL (eN l) (ja l) l.length [1]else []):=by
 unfold dr.f;simp only[Option.bind_some];refine Ev.bind (oo l nx 1 hl) ?_
 by_cases c:cE 1 l 0<0
 ·have:¬eN l 1=true:=by unfold eN;simp;omega
  exact bs c (eP (Ev.now _) (by rw[if_neg this]))
 ·have h1:eN l 1=true:=decide_eq_true (by omega);rw[if_pos h1];refine dv c (bs (by simp) ?_)
  have key:∀(m:Nat),m≤l.length→∀xs,pI l xs→Ev (fun k=>dr.l0 k xs ((l.length-m:Nat):Int) l nx) (xL (eN l) (ja l) m xs):=by
   intro m
   induction m with
   |zero=>
    intro _ xs _
    apply aV
    simp only[dr.l0];exact dv (by omega) (Ev.now _)
   |succ m ih=>
    intro hm xs hx
    apply aV
    simp only[dr.l0];refine bs (by omega) (Ev.bind (xG l nx xs hl hs hx) ?_);rw[my _ l.length (by omega) (by omega),show l.length-(m+1)+1=l.length-m by omega];exact ih (by omega) _ hx.next
  have:=key l.length (Nat.le_refl _) [1] ⟨List.pairwise_singleton ..,fun x hx=>by rw[List.mem_singleton.1 hx];exact h1⟩;rw[Nat.sub_self]at this;exact this
end Go.Proofs.YtlecajlnjmbilaaGreatDoor.Q
namespace Go.Proofs.YtlecajlnjmbilaaGreatDoor.Q
open Go.RowKit Go.Proofs.YtlecajlnjmbilaaGreatDoor.P Go.Proofs.ae.au Go.Proofs.ae.ba Go.Proofs.ae.bg
theorem uB (l:List bh) (nx:Int) (out:List Int) (e:List eb) (R:List Int) (he:e.length≤1048576):
  ∀(m:Nat),m≤e.length→∀q,q.length+m<17592186044416→Ev (fun k=>aU.l0 k out (q++(e.drop (e.length-m)).map (·.f1)) l nx) R→Ev (fun k=>aU.l1 k out q e (e.length:Int) ((e.length-m:Nat):Int) l nx) R:=by
 intro m
 induction m with
 |zero=>
  intro _ q _ h;rw[Nat.sub_zero,List.drop_length,List.map_nil,List.append_nil]at h
  apply aV
  simp only[aU.l1,Nat.sub_zero];exact dv (by omega) h
 |succ m ih=>
  intro hm q hq h
  have hj:e.length-(m+1)<e.length:=by omega
  have hrd:al e ((e.length-(m+1):Nat):Int)=e[e.length-(m+1)]:=getD_at e _ _ hj;rw[List.drop_eq_getElem_cons hj,show e.length-(m+1)+1=e.length-m by omega,List.map_cons]at h
  apply aV
  simp only[aU.l1,hrd];rw[my _ e.length hj (by omega),show e.length-(m+1)+1=e.length-m by omega];refine bs (by omega) (bs (by omega) (bs (by omega) (bs (by omega) (ih (by omega) _ (by simp only[List.length_append,List.length_singleton];omega) ?_))));rw[List.append_assoc];exact h
structure rE (l:List bh) (out q:List Int):Prop where
 nd:out.Nodup
 ex:∀x∈out,eN l x=true
 sh:∀x∈out,∀y∈ja l x,eN l y=true→y∈out∨y∈q
 one:eN l 1=true→1∈out∨1∈q
 mi:∀K:List Int,ux (eN l) (ja l) K→(eN l 1=true→1∈K)→(∀x∈out,x∈K)∧∀y∈q,eN l y=true→y∈K
 ln:q.length≤1+out.length*1048576
theorem rE.len {l:List bh}{out q:List Int}(h:rE l out q):out.length≤l.length:=by
 have:=oq out (l.map (·.f0)) h.nd (fun x hx=>v_ l x (h.ex x hx))
 rwa [List.length_map]at this
theorem xH (l:List bh) (n:Int) (hs:∀x∈l,gv x):(ja l n).length≤1048576:=by
 have h:=(iQ l n hs).e;unfold ja
 split
 ·rwa [List.length_map]
 ·simp
theorem rE.old {l:List bh}{out q:List Int}{n:Int}(h:rE l out (n::q)) (ho:¬(eN l n=true∧n∉out)):rE l out q:=by
 have hn:eN l n=true→n∈out:=fun e=>Classical.byContradiction fun c=>ho ⟨e,c⟩
 refine⟨h.nd,h.ex,fun x hx y hy he=> ?_,fun e=> ?_,fun K hK h1=>⟨(h.mi K hK h1).1,fun y hy=>(h.mi K hK h1).2 y (List.mem_cons_of_mem _ hy)⟩,by have:=h.ln;simp only[List.length_cons]at this;omega⟩
 ·rcases h.sh x hx y hy he with a|a
  ·exact .inl a
  ·rcases List.mem_cons.1 a with rfl|a
   ·exact .inl (hn he)
   ·exact .inr a
 ·rcases h.one e with a|a
  ·exact .inl a
  ·rcases List.mem_cons.1 a with a|a
   ·exact .inl (a▸hn (a▸e))
   ·exact .inr a
theorem rE.new {l:List bh}{out q:List Int}{n:Int}(hs:∀x∈l,gv x) (h:rE l out (n::q)) (he:eN l n=true) (hn:n∉out):rE l (out++[n]) (q++ja l n):=by
 have hk:=xH l n hs;refine⟨?_,fun x hx=> ?_,fun x hx y hy hey=> ?_,fun e=> ?_,fun K hK h1=>⟨fun x hx=> ?_,fun y hy hey=> ?_⟩,?_⟩
 ·rw[List.nodup_append];exact⟨h.nd,by simp,fun a ha b hb=>by rw[List.mem_singleton.1 hb];exact fun e=>hn (e▸ha)⟩
 ·rcases List.mem_append.1 hx with hx|hx
  ·exact h.ex x hx
  ·rw[List.mem_singleton.1 hx];exact he
 ·rcases List.mem_append.1 hx with hx|hx
  ·rcases h.sh x hx y hy hey with a|a
   ·exact .inl (List.mem_append.2 (.inl a))
   ·rcases List.mem_cons.1 a with rfl|a
    ·exact .inl (List.mem_append.2 (.inr (List.mem_singleton.2 rfl)))
    ·exact .inr (List.mem_append.2 (.inl a))
  ·rw[List.mem_singleton.1 hx]at hy;exact .inr (List.mem_append.2 (.inr hy))
 ·rcases h.one e with a|a
  ·exact .inl (List.mem_append.2 (.inl a))
  ·rcases List.mem_cons.1 a with a|a
   ·exact .inl (List.mem_append.2 (.inr (List.mem_singleton.2 a)))
   ·exact .inr (List.mem_append.2 (.inl a))
 ·rcases List.mem_append.1 hx with hx|hx
  ·exact(h.mi K hK h1).1 x hx
  ·rw[List.mem_singleton.1 hx];exact(h.mi K hK h1).2 n (List.mem_cons_self ..) he
 ·rcases List.mem_append.1 hy with hy|hy
  ·exact(h.mi K hK h1).2 y (List.mem_cons_of_mem _ hy) hey
  ·exact hK n ((h.mi K hK h1).2 n (List.mem_cons_self ..) he) y hy hey
 ·have:=h.ln;simp only[List.length_append,List.length_cons,List.length_singleton,List.length_nil]at this⊢
  omega
theorem mn (l:List bh) (nx:Int) (hl:l.length≤1048576) (hs:∀x∈l,gv x) (out q:List Int) (n:Int) (R:List Int) (hi:rE l out (n::q))
  (hold:¬(eN l n=true∧n∉out)→Ev (fun k=>aU.l0 k out q l nx) R) (hnew:eN l n=true→n∉out→Ev (fun k=>aU.l0 k (out++[n]) (q++ja l n) l nx) R):Ev (fun k=>aU.l0 k out (n::q) l nx) R:=by
 have hlen:=hi.len;have hln:=hi.ln;simp only[List.length_cons]at hln;have hrd:rd (n::q) 0=n:=rfl;have hdr:(n::q).drop (1:Int).toNat=q:=rfl;have hsm:=iQ l n hs
 apply aV
 simp only[aU.l0,hrd,hdr,Option.bind_some];refine bs (by simp only[List.length_cons];omega) (bs (by simp only[List.length_cons];omega) (bs (by simp only[List.length_cons];omega) (Ev.bind (nq l nx n hl hs) ?_)));dsimp only
 by_cases c:eN l n=true
 ·have hc:dt.f out n=some (out.contains n):=by unfold dt.f;rw[if_pos (by omega)]
  refine bs c ?_;simp only[hc,Option.bind_some]
  by_cases cc:n∈out
  ·have:out.contains n=true:=by simpa using cc
   rw[this]
   apply aV
   simp only[aU.j1];exact bs trivial (hold (fun h=>h.2 cc))
  ·have:out.contains n=false:=by simpa using cc
   rw[this];have h:=hnew c cc
   apply aV
   simp only[aU.j1,Option.bind_some];refine dv (by decide) (bs (by omega) ?_)
   by_cases hk:(fN l n).f1=2
   ·have e:ja l n=(fN l n).f4.map (·.f1):=if_pos ⟨c,hk⟩;rw[e]at h;refine bs hk ?_;have hln2:out.length*1048576≤1048576*1048576:=Nat.mul_le_mul_right _ (by omega);have he:=hsm.e;have:=uB l nx (out++[n]) (fN l n).f4 R hsm.e _ (Nat.le_refl _) q (by omega) (by rw[Nat.sub_self,List.drop_zero];exact h);rw[Nat.sub_self]at this;exact this
   ·have e:ja l n=[]:=if_neg (fun h=>hk h.2);rw[e,List.append_nil]at h;exact dv hk h
 ·refine dv c ?_
  apply aV
  simp only[aU.j1];exact bs trivial (hold (fun h=>c h.1))
theorem rY (l:List bh) (nx:Int) (hl:l.length≤1048576) (hs:∀x∈l,gv x):∀(d:Nat) (q out:List Int),l.length-out.length≤d→rE l out q→∃o,Ev (fun k=>aU.l0 k out q l nx) (nw o)∧rE l o []:=by
 intro d
 induction d with
 |zero=>
  intro q
  induction q with
  |nil=>
   intro out _ h;refine⟨out,?_,h⟩;have:=h.len
   apply aV
   simp only[aU.l0];exact dv (by simp) (bs (by omega) (Ev.now _))
  |cons n q ihq=>
   intro out hd h
   by_cases c:eN l n=true∧n∉out
   ·have:=(h.new hs c.1 c.2).len;simp only[List.length_append,List.length_singleton]at this
    omega
   ·obtain⟨o,ho,hi⟩:=ihq out hd (h.old c);exact⟨o,mn l nx hl hs out q n _ h (fun _=>ho) (fun a b=>absurd ⟨a,b⟩ c),hi⟩
 |succ d ih=>
  intro q
  induction q with
  |nil=>
   intro out _ h;refine⟨out,?_,h⟩;have:=h.len
   apply aV
   simp only[aU.l0];exact dv (by simp) (bs (by omega) (Ev.now _))
  |cons n q ihq=>
   intro out hd h
   by_cases c:eN l n=true∧n∉out
   ·obtain⟨o,ho,hi⟩:=ih (q++ja l n) (out++[n]) (by simp only[List.length_append,List.length_singleton];omega) (h.new hs c.1 c.2);exact⟨o,mn l nx hl hs out q n _ h (fun a=>absurd c a) (fun _ _=>ho),hi⟩
   ·obtain⟨o,ho,hi⟩:=ihq out hd (h.old c);exact⟨o,mn l nx hl hs out q n _ h (fun _=>ho) (fun a b=>absurd ⟨a,b⟩ c),hi⟩
theorem tz (l:List bh) (nx:Int) (hl:l.length≤1048576) (hs:∀x∈l,gv x):Ev (fun k=>aU.f k l nx) (if eN l 1=true then xL (eN l) (ja l) l.length [1]else []):=by
 obtain⟨o,ho,hi⟩:=rY l nx hl hs l.length [1] [] (by omega) ⟨List.nodup_nil,(fun x hx=>by cases hx),(fun x hx=>by cases hx),(fun _=> .inr (List.mem_singleton.2 rfl)),(fun K hK h1=>⟨(fun x hx=>by cases hx),(fun y hy he=>by rw[List.mem_singleton.1 hy]at he⊢;exact h1 he)⟩),by simp⟩;unfold aU.f;refine eP ho ?_
 by_cases c:eN l 1=true
 ·rw[if_pos c];have h1o:1∈o:=(hi.one c).resolve_right (by simp);have:=vY (eN l) (ja l) (l.map (·.f0)) o (fun y hy=>v_ l y hy) c hi.nd (fun x hx y hy he=>(hi.sh x hx y hy he).resolve_right (by simp)) h1o (fun K hK h1=>(hi.mi K hK (fun _=>h1)).1);rw[List.length_map]at this;exact this
 ·rw[if_neg c];have:o=[]:=List.eq_nil_iff_forall_not_mem.2 (fun x hx=>by have:=(hi.mi [] (fun x hx=>by cases hx) (fun e=>absurd e c)).1 x hx;cases this);rw[this];exact List.eq_nil_of_length_eq_zero (by rw[lD];rfl)
end Go.Proofs.YtlecajlnjmbilaaGreatDoor.Q
namespace Go.Proofs.YtlecajlnjmbilaaGreatDoor.Q
open Go.RowKit Go.Proofs.YtlecajlnjmbilaaGreatDoor.P Go.Proofs.ae.au Go.Proofs.ae.ba Go.Proofs.ae.bg
theorem rF (n:Int) (l:List bh) (h:∀x∈l,x.f4.length≤1048576):eD n l≤l.length*1048576:=by
 induction l with
 |nil=>simp[eD]
 |cons x m ih=>
  have e:fW n x≤1048576:=by
   have:=h x (List.mem_cons_self ..);unfold fW
   split
   ·have:=List.length_filter_le (fun y:eb=>decide (y.f1=n)) x.f4;unfold fg;omega
   ·omega
  have:=ih (fun y hy=>h y (List.mem_cons_of_mem _ hy));simp only[eD,List.map_cons,List.sum_cons,List.length_cons]at this⊢
  omega
def nt (l:List bh) (e:List eb):Bool:=e.all fun x=>eN l x.f1
def qu (l xs:List bh):Bool:=xs.all fun x=>decide (x.f2=(eD x.f0 l:Int))&&nt l x.f4
def rG (l:List bh):List Int:=if eN l 1=true then xL (eN l) (ja l) l.length [1]else []
def nX (l:List bh) (nx:Int):Bool:=pD l nx&&(decide ((rG l).length=l.length)&&qu l l)
theorem rH (l:List bh) (i:Nat) (hi:i<l.length):qu l (l.drop i)=(decide (l[i].f2=(eD l[i].f0 l:Int))&&nt l l[i].f4&&qu l (l.drop (i+1))):=by
 unfold qu;rw[List.drop_eq_getElem_cons hi,List.all_cons]
theorem qv (l:List bh) (e:List eb) (j:Nat) (hj:j<e.length):nt l (e.drop j)=(eN l e[j].f1&&nt l (e.drop (j+1))):=by
 unfold nt;rw[List.drop_eq_getElem_cons hj,List.all_cons]
theorem rI (l:List bh) (nx i:Int) (x:bh) (Z:Bool) (hl:l.length≤1048576) (he:x.f4.length≤1048576) (hfin:Ev (fun k=>aE.l0 k (wrap64 (i+1)) l nx) Z):
  Ev (fun k=>aE.l1 k i 0 l nx x.f0 x.f1 x.f2 x.f3 x.f4 x.f5) (nt l x.f4&&Z):=by
 have key:=down (n:=x.f4.length) (P:=fun j=>Ev (fun k=>aE.l1 k i (j:Nat) l nx x.f0 x.f1 x.f2 x.f3 x.f4 x.f5) (nt l (x.f4.drop j)&&Z)) (by
   apply aV
   simp only[aE.l1,List.drop_length]
   exact dv (by omega) hfin) (fun j hj h=>by
   have hrd:al x.f4 (j:Int)=x.f4[j]:=getD_at x.f4 _ j hj
   apply aV
   simp only[aE.l1,hrd];rw[my j x.f4.length hj (by omega),qv l x.f4 j hj];refine bs (by omega) (bs (by omega) (Ev.bind (oo l nx _ hl) ?_))
   by_cases c:cE x.f4[j].f1 l 0<0
   ·refine bs c (eP (Ev.now _) ?_);unfold eN;rw[decide_eq_false (by omega)];rfl
   ·refine dv c (eP h ?_)
    unfold eN;rw[decide_eq_true (by omega)];rfl)
 simpa using key
theorem rJ (l:List bh) (nx:Int) (hl:l.length≤1048576) (hs:∀x∈l,x.f4.length≤1048576):Ev (fun k=>aE.l0 k 0 l nx) (qu l l):=by
 have key:=down (n:=l.length) (P:=fun i=>Ev (fun k=>aE.l0 k (i:Nat) l nx) (qu l (l.drop i))) (by
   apply aV
   simp only[aE.l0,List.drop_length]
   exact dv (by omega) (Ev.now _)) (fun i hi h=>by
   have hrd:af l (i:Int)=l[i]:=getD_at l _ i hi;have hx:=hs _ (List.getElem_mem hi);have hu:=rF l[i].f0 l hs;have hu2:l.length*1048576≤1048576*1048576:=Nat.mul_le_mul_right _ hl;rw[←my i l.length hi (by omega)]at h
   apply aV
   simp only[aE.l0,hrd];rw[rH l i hi];refine bs (by omega) (bs (by omega) (Ev.bind (vP l nx _ hl hs (by omega)) ?_))
   by_cases c:((eD l[i].f0 l:Nat):Int)=l[i].f2
   ·refine bs c (eP (rI l nx i l[i] _ hl hx h) ?_);rw[decide_eq_true c.symm,Bool.true_and]
   ·refine dv c (eP (Ev.now _) ?_)
    rw[decide_eq_false (fun e=>c e.symm)];rfl)
 simpa using key
theorem uC (l:List bh) (nx:Int) (hl:l.length≤1048576) (hs:∀x∈l,pC x):Ev (fun k=>aE.f k l nx) (nX l nx):=by
 have hA:∀x∈l,gv x:=fun x hx=>⟨(hs x hx).d,(hs x hx).e,(hs x hx).t⟩
 unfold aE.f nX;refine Ev.bind (vN l nx hl hs) ?_
 by_cases c1:pD l nx=true
 ·refine bs c1 (Ev.bind (tx l nx hl hA) ?_);rw[c1,Bool.true_and]
  change Ev (fun k=>aE.j0 k (((rG l).length:Int) !=(l.length:Int)) l nx) _
  apply aV
  simp only[aE.j0]
  by_cases c2:(rG l).length=l.length
  ·refine dv (by simp[c2]) (eP (rJ l nx hl (fun x hx=>(hs x hx).e)) ?_);rw[decide_eq_true c2,Bool.true_and]
  ·refine bs (by simp;omega) (eP (Ev.now _) ?_);rw[decide_eq_false c2];rfl
 ·refine dv c1 ?_
  apply aV
  simp only[aE.j0];refine bs trivial (eP (Ev.now _) ?_);rw[show pD l nx=false by simpa using c1];rfl
theorem rK (l:List bh) (nx i:Int) (e:List eb) (Z:Bool) (hl:l.length≤1048576) (he:e.length≤1048576) (hfin:Ev (fun k=>bb.l0 k l (l.length:Int) (wrap64 (i+1)) l nx) Z):
  Ev (fun k=>bb.l1 k l (l.length:Int) i e (e.length:Int) 0 l nx) (nt l e&&Z):=by
 have key:=down (n:=e.length) (P:=fun j=>Ev (fun k=>bb.l1 k l (l.length:Int) i e (e.length:Int) (j:Nat) l nx) (nt l (e.drop j)&&Z)) (by
   apply aV
   simp only[bb.l1,List.drop_length]
   exact dv (by omega) hfin) (fun j hj h=>by
   have hrd:al e (j:Int)=e[j]:=getD_at e _ j hj
   apply aV
   simp only[bb.l1,hrd];rw[my j e.length hj (by omega),qv l e j hj]
   have hp:Ev (fun k=>ek.f k l nx e[j].f1) (cE e[j].f1 l 0):=by unfold ek.f;exact bs (by omega) (Ev.now _)
   refine bs (by omega) (bs (by omega) (bs (by omega) (Ev.bind hp ?_)))
   by_cases c:cE e[j].f1 l 0<0
   ·refine bs c (eP (Ev.now _) ?_);unfold eN;rw[decide_eq_false (by omega)];rfl
   ·refine dv c (eP h ?_)
    unfold eN;rw[decide_eq_true (by omega)];rfl)
 simpa using key
theorem rL (l:List bh) (nx:Int) (hl:l.length≤1048576) (hs:∀x∈l,x.f4.length≤1048576):Ev (fun k=>bb.l0 k l (l.length:Int) 0 l nx) (qu l l):=by
 have key:=down (n:=l.length) (P:=fun i=>Ev (fun k=>bb.l0 k l (l.length:Int) (i:Nat) l nx) (qu l (l.drop i))) (by
   apply aV
   simp only[bb.l0,List.drop_length]
   exact dv (by omega) (Ev.now _)) (fun i hi h=>by
   have hrd:af l (i:Int)=l[i]:=getD_at l _ i hi;have hx:=hs _ (List.getElem_mem hi);have hu:=rF l[i].f0 l hs;have hu2:l.length*1048576≤1048576*1048576:=Nat.mul_le_mul_right _ hl;rw[←my i l.length hi (by omega)]at h
   apply aV
   simp only[bb.l0,hrd];rw[rH l i hi];refine bs (by omega) (bs (by omega) (bs (by omega) (Ev.bind (vQ l nx _ hl hs (by omega)) ?_)))
   by_cases c:l[i].f2=((eD l[i].f0 l:Nat):Int)
   ·refine bs c (eP (rK l nx i l[i].f4 _ hl hx h) ?_);rw[decide_eq_true c,Bool.true_and]
   ·refine dv c (eP (Ev.now _) ?_)
    rw[decide_eq_false c];rfl)
 simpa using key
theorem uD (l:List bh) (nx:Int) (hl:l.length≤1048576) (hs:∀x∈l,pC x):Ev (fun k=>bb.f k l nx) (nX l nx):=by
 have hA:∀x∈l,gv x:=fun x hx=>⟨(hs x hx).d,(hs x hx).e,(hs x hx).t⟩
 unfold bb.f nX;refine Ev.bind (vO l nx hl hs) ?_
 by_cases c1:pD l nx=true
 ·refine bs c1 (Ev.bind (tz l nx hl hA) ?_);rw[c1,Bool.true_and]
  change Ev (fun k=>bb.j0 k (((rG l).length:Int) !=(l.length:Int)) l nx) _
  apply aV
  simp only[bb.j0]
  by_cases c2:(rG l).length=l.length
  ·refine dv (by simp[c2]) (eP (rL l nx hl (fun x hx=>(hs x hx).e)) ?_);rw[decide_eq_true c2,Bool.true_and]
  ·refine bs (by simp;omega) (eP (Ev.now _) ?_);rw[decide_eq_false c2];rfl
 ·refine dv c1 ?_
  apply aV
  simp only[bb.j0];refine bs trivial (eP (Ev.now _) ?_);rw[show pD l nx=false by simpa using c1];rfl
end Go.Proofs.YtlecajlnjmbilaaGreatDoor.Q
namespace Go.Proofs.YtlecajlnjmbilaaGreatDoor.Q
open Go.RowKit Go.Proofs.YtlecajlnjmbilaaGreatDoor.P Go.Proofs.ae.au Go.Proofs.ae.ba Go.Proofs.ae.bg
theorem oI (l:List bh) (nx:Int) (hl:l.length≤1048576) (hs:∀x∈l,gv x):Ev (fun k=>cl.f k l nx) (l,nx):=by
 have key:=down (n:=l.length) (P:=fun i=>Ev (fun k=>cl.l0 k l (l.length:Int) (i:Nat) (l.take i) nx) (l,nx)) (by
   apply aV
   simp only[cl.l0,List.take_length]
   exact dv (by omega) (Ev.now _)) (fun i hi h=>by
   have hrd:af l (i:Int)=l[i]:=getD_at l _ i hi
   apply aV
   simp only[cl.l0,hrd,ry l[i] (hs _ (List.getElem_mem hi)),Option.bind_some];rw[my i l.length hi (by omega)];refine bs (by omega) (bs (by omega) (bs (by omega) (bs (by rw[List.length_take];omega) ?_)));rw[List.take_succ_eq_append_getElem hi]at h
   exact h)
 simpa [cl.f]using key
end Go.Proofs.YtlecajlnjmbilaaGreatDoor.Q
namespace Go.Proofs.YtlecajlnjmbilaaGreatDoor.Q
open Go.RowKit Go.Proofs.YtlecajlnjmbilaaGreatDoor.P Go.Proofs.ae.au Go.Proofs.ae.ba Go.Proofs.ae.bg
theorem kX (l:List bh) (nx:Int) (hl:l.length≤1048576) (hs:∀x∈l,gv x):Ev (fun k=>cr.f k l nx) (l,nx):=by
 have key:=down (n:=l.length) (P:=fun i=>Ev (fun k=>cr.l0 k (i:Nat) l nx (l.take i) nx) (l,nx)) (by
   apply aV
   simp only[cr.l0,List.take_length]
   exact dv (by omega) (Ev.now _)) (fun i hi h=>by
   have hrd:af l (i:Int)=l[i]:=getD_at l _ i hi
   apply aV
   simp only[cr.l0,hrd,pF l[i] (hs _ (List.getElem_mem hi)),Option.bind_some];rw[my i l.length hi (by omega)];refine bs (by omega) (bs (by omega) (bs (by rw[List.length_take];omega) ?_));rw[List.take_succ_eq_append_getElem hi]at h
   exact h)
 simpa [cr.f]using key
def lg (ino:Int):List bh→Nat
 |[]=>0
 |y::l=>if y.f0<ino then lg ino l+1 else 0
theorem wa (ino:Int) (l:List bh):∀j:Nat,cE ino l j<0→∀y∈l,y.f0≠ino:=by
 induction l with
 |nil=>intro j _ y hy;cases hy
 |cons x l ih=>
  intro j h y hy;rw[cE]at h
  split at h
  ·omega
  ·rcases List.mem_cons.1 hy with rfl|hy
   ·assumption
   ·exact ih _ h y hy
theorem abE (ino:Int) (l:List bh):(∀y∈l,y.f0≠ino)→∀j:Nat,(uc ino l j= -1∧lg ino l=l.length)∨(uc ino l j=((j+lg ino l:Nat):Int)∧lg ino l<l.length):=by
 induction l with
 |nil=>intro _ j;exact .inl ⟨rfl,rfl⟩
 |cons x l ih=>
  intro h j;have hx:=h x (List.mem_cons_self ..);rw[uc,lg]
  by_cases c:ino<x.f0
  ·rw[if_pos c,if_neg (by omega)];exact .inr ⟨by simp,by simp⟩
  ·rw[if_neg c,if_pos (by omega)];rcases ih (fun y hy=>h y (List.mem_cons_of_mem _ hy)) (j+1)with⟨h1,h2⟩|⟨h1,h2⟩
   ·exact .inl ⟨h1,by rw[h2];rfl⟩
   ·exact .inr ⟨by rw[h1];congr 1;omega,by simp only[List.length_cons];omega⟩
theorem abF (ino:Int) (l:List bh) (h:cE ino l 0<0):gtP ino l=lg ino l:=by
 unfold gtP;rcases abE ino l (wa ino l 0 h) 0 with⟨h1,h2⟩|⟨h1,h2⟩
 ·rw[h1,if_pos (by omega),h2]
 ·rw[h1,if_neg (by omega)];omega
theorem abG (ino:Int) (l:List bh):lg ino l≤l.length:=by
 induction l with
 |nil=>exact Nat.le_refl _
 |cons x l ih=>rw[lg,List.length_cons];split<;>omega
theorem uE (x:bh) (l:List bh):(lE x l).length≤l.length+1:=by
 unfold lE
 split
 ·rw[List.length_set];omega
 ·simp only[List.length_append,List.length_take,List.length_drop,List.length_singleton];omega
theorem abH (x y:bh) (l:List bh) (h:y∈lE x l):y=x∨y∈l:=by
 unfold lE at h
 split at h
 ·rcases List.mem_or_eq_of_mem_set h with h|h
  ·exact .inr h
  ·exact .inl h
 ·rcases List.mem_append.1 h with h|h
  ·rcases List.mem_append.1 h with h|h
   ·exact .inr (List.mem_of_mem_take h)
   ·exact .inl (by simpa using h)
  ·exact .inr (List.mem_of_mem_drop h)
theorem mz (a b:List bh):cN (a++b)=cN a+cN b:=by unfold cN;rw[List.map_append,List.sum_append]
theorem wb (x:bh) (l:List bh):cN (lE x l)≤cN l+lV x:=by
 unfold lE
 split
 ·generalize (cE x.f0 l 0).toNat=i;rw[List.set_eq_take_append_cons_drop]
  split
  ·have h:cN l=cN (l.take i)+cN (l.drop i):=by rw[←mz,List.take_append_drop]
   have h2:cN (l.drop (i+1))≤cN (l.drop i):=by
    rcases Nat.lt_or_ge i l.length with hi|hi
    ·rw[List.drop_eq_getElem_cons hi];unfold cN;rw[List.map_cons,List.sum_cons];omega
    ·rw[List.drop_of_length_le hi,List.drop_of_length_le (by omega)];exact Nat.le_refl _
   have h3:cN (x::l.drop (i+1))=lV x+cN (l.drop (i+1)):=by unfold cN;simp
   rw[mz,h3]
   omega
  ·omega
 ·generalize gtP x.f0 l=i
  have h:cN l=cN (l.take i)+cN (l.drop i):=by rw[←mz,List.take_append_drop]
  rw[mz,mz]
  have:cN [x]=lV x:=by unfold cN;simp
  omega
theorem abI (l:List bh) (nx:Int) (x:bh) (hl:l.length≤1048576) (hs:∀x∈l,gv x) (hx:gv x):Ev (fun k=>ik.f k l nx x.f0 x.f1 x.f2 x.f3 x.f4 x.f5) (lE x l,nx):=by
 unfold ik.f;refine Ev.bind (oI l nx hl hs) ?_;simp only[ry x hx,Option.bind_some];exact bs (by omega) (Ev.now _)
theorem abJ (l:List bh) (nx:Int) (x:bh) (hl:l.length≤1048576) (hs:∀x∈l,gv x) (hx:gv x):Ev (fun k=>aZ.f k l nx x.f0 x.f1 x.f2 x.f3 x.f4 x.f5) (lE x l,nx):=by
 have hr:=la x.f0 l 0;unfold aZ.f;refine Ev.bind (kX l nx hl hs) (Ev.bind (oo l nx x.f0 hl) ?_)
 by_cases c:0≤cE x.f0 l 0
 ·simp only[pF x hx,Option.bind_some];refine bs c (bs c (bs (by omega) (eP (Ev.now _) ?_)));unfold lE;rw[if_pos c]
 ·refine dv c ?_
  have hp:lE x l=l.take (lg x.f0 l)++[x]++l.drop (lg x.f0 l):=by
   unfold lE;rw[if_neg c,abF _ _ (by omega)]
  rw[hp];have hle:=abG x.f0 l
  have key:=down (n:=l.length) (P:=fun i=>i+lg x.f0 (l.drop i)=lg x.f0 l→Ev (fun k=>aZ.l0 k (i:Nat) l nx x.f0 x.f1 x.f2 x.f3 x.f4 x.f5 l nx) (l.take (lg x.f0 l)++[x]++l.drop (lg x.f0 l),nx)) (fun hi=>by
    rw[List.drop_length]at hi
    have hi':l.length=lg x.f0 l:=by rw[←hi];rfl
    apply aV
    simp only[aZ.l0,pF x hx,Option.bind_some,Int.toNat_natCast,List.nil_append,List.length_nil];refine dv (by omega) (bs (by omega) (bs (by omega) (bs (by rw[List.length_take];omega) (bs (by rw[List.length_take];omega) (bs (by simp only[List.length_append,List.length_take,List.length_drop,List.length_singleton];omega) (eP (Ev.now _) ?_))))))
    rw[←hi']) (fun i hi h hd=>by
    have hrd:af l (i:Int)=l[i]:=getD_at l _ i hi;rw[List.drop_eq_getElem_cons hi,lg]at hd
    apply aV
    simp only[aZ.l0,hrd,pF x hx,Option.bind_some,Int.toNat_natCast,List.nil_append,List.length_nil];rw[my i l.length hi (by omega)];refine bs (by omega) (bs (by omega) ?_)
    by_cases cc:l[i].f0<x.f0
    ·rw[if_pos cc]at hd;exact bs cc (h (by omega))
    ·rw[if_neg cc]at hd;refine dv cc (bs (by omega) (bs (by rw[List.length_take];omega) (bs (by rw[List.length_take];omega) (bs (by simp only[List.length_append,List.length_take,List.length_drop,List.length_singleton];omega) (eP (Ev.now _) ?_)))))
     rw[show i=lg x.f0 l by omega])
  exact key (by simp)
end Go.Proofs.YtlecajlnjmbilaaGreatDoor.Q
namespace Go.Proofs.YtlecajlnjmbilaaGreatDoor.Q
open Go.RowKit Go.Proofs.YtlecajlnjmbilaaGreatDoor.P Go.Proofs.ae.au Go.Proofs.ae.ba Go.Proofs.ae.bg
end Go.Proofs.YtlecajlnjmbilaaGreatDoor.Q
namespace Go.Proofs.YtlecajlnjmbilaaGreatDoor.Q
open Go.RowKit Go.Proofs.YtlecajlnjmbilaaGreatDoor.P Go.Proofs.ae.au Go.Proofs.ae.ba Go.Proofs.ae.bg
end Go.Proofs.YtlecajlnjmbilaaGreatDoor.Q
namespace Go.Proofs.YtlecajlnjmbilaaGreatDoor.Q
open Go.RowKit Go.Proofs.YtlecajlnjmbilaaGreatDoor.P Go.Proofs.ae.au Go.Proofs.ae.ba Go.Proofs.ae.bg
end Go.Proofs.YtlecajlnjmbilaaGreatDoor.Q
namespace Go.Proofs.YtlecajlnjmbilaaGreatDoor.Q
open Go.RowKit Go.Proofs.YtlecajlnjmbilaaGreatDoor.P Go.Proofs.ae.au Go.Proofs.ae.ba Go.Proofs.ae.bg
end Go.Proofs.YtlecajlnjmbilaaGreatDoor.Q
namespace Go.Proofs.YtlecajlnjmbilaaGreatDoor.Q
open Go.RowKit Go.Proofs.YtlecajlnjmbilaaGreatDoor.P Go.Proofs.ae.au Go.Proofs.ae.ba Go.Proofs.ae.bg
theorem pC.a {x:bh}(h:pC x):gv x:=⟨h.d,h.e,h.t⟩
def oZ (T:List bh) (nx:Int) (ps:List ByteArray):Bool:=ps.all (fun p=>(ju p).2)&&nX T nx
theorem abK (T:List bh) (nx:Int) (ps:List ByteArray) (hT:T.length≤1048576) (hs:∀x∈T,pC x) (hp:∀p∈ps,p.size≤1048576) (hn:ps.length≤1048576):Ev (fun k=>eA.f k T nx ps) (oZ T nx ps):=by
 have key:=down (n:=ps.length) (P:=fun i=>Ev (fun k=>eA.l0 k ps (ps.length:Int) (i:Nat) T nx) ((ps.drop i).all (fun p=>(ju p).2)&&nX T nx)) (by
   apply aV
   simp only[eA.l0,List.drop_length]
   exact dv (by omega) (Ev.bind (uD T nx hT hs) (eP (Ev.now _) (by simp)))) (fun i hi h=>by
   have hrd:lq ByteArray.empty ps (i:Int)=ps[i]:=getD_at ps _ i hi
   apply aV
   simp only[eA.l0,hrd];rw[my i ps.length hi (by omega),List.drop_eq_getElem_cons hi,List.all_cons];refine bs (by omega) (bs (by omega) (bs (by omega) (Ev.bind (rA _ (hp _ (List.getElem_mem hi))) ?_)))
   by_cases c:(ju ps[i]).2=true
   ·exact bs c (eP h (by rw[c,Bool.true_and]))
   ·exact dv c (eP (Ev.now _) (by rw[show(ju ps[i]).2=false by simpa using c];rfl)))
 simpa [eA.f,oZ]using key
def acB (x:bh) (d:List Int):bh:=⟨x.f0,x.f1,x.f2,d,x.f4,x.f5⟩
def lh (T:List bh) (p:ByteArray):bh×Int:=if(ki T p).2=0∧(ki T p).1.f1≠1 then((ki T p).1,3)else ki T p
theorem xI (T:List bh) (nx:Int) (p:ByteArray) (hT:T.length≤1048576) (hs:∀x∈T,gv x) (hp:p.size≤1048576):Ev (fun k=>js.f k T nx p) (wH (lh T p)):=by
 unfold js.f;refine Ev.bind (xB T nx p hT hs hp) ?_;unfold lh;simp only[wH]
 by_cases c1:(ki T p).2=0
 ·refine bs c1 ?_
  by_cases c2:(ki T p).1.f1=1
  ·exact bs c2 (eP (Ev.now _) (by rw[if_neg (fun h=>h.2 c2)]))
  ·exact dv c2 (eP (Ev.now _) (by rw[if_pos ⟨c1,c2⟩]))
 ·exact dv c1 (eP (Ev.now _) (by rw[if_neg (fun h=>c1 h.1)]))
theorem nU (T:List bh) (p:ByteArray) (hs:∀x∈T,gv x):gv (lh T p).1:=by
 unfold lh
 split
 ·exact qt T p hs
 ·exact qt T p hs
def rM (d:List Int) (n:Nat):List Int:=d.take (min d.length n)++(List.replicate n 0).drop (min d.length n)
theorem pv (d:List Int) (n:Nat):(rM d n).length=n:=by
 simp only[rM,List.length_append,List.length_take,List.length_drop,List.length_replicate];omega
def uf (d:List Int) (o:Nat) (x:List Int):List Int:=(rM d (max d.length (o+x.length))).take o++x++(rM d (max d.length (o+x.length))).drop (o+x.length)
def nj (T:List bh) (nx:Int) (p:ByteArray) (o:Int) (x:List Int):List bh×Int×Int:=
 if oZ T nx [p]=true∧(0≤o∧o≤100)then
  (if(lh T p).2=0 then
   (if o+(x.length:Int)>100 then(T,nx,5)
    else(lE (acB (lh T p).1 (uf (lh T p).1.f3 o.toNat x)) T,nx,0))
   else(T,nx,(lh T p).2))
 else(T,nx,1)
theorem vC (T:List bh) (nx:Int) (p:ByteArray) (o:Int) (x:List Int) (hT:T.length≤1048576) (hs:∀x∈T,pC x) (hp:p.size≤1048576) (hx:x.length≤1048576):Ev (fun k=>gx.f k T nx p o x) (nj T nx p o x):=by
 have hA:∀x∈T,gv x:=fun x hx=>(hs x hx).a
 unfold gx.f;refine Ev.bind (oI T nx hT hA) (Ev.bind (abK T nx [p] hT hs (fun q hq=>by rw[List.mem_singleton.1 hq];exact hp) (by simp)) ?_);unfold nj;dsimp only
 by_cases c1:oZ T nx [p]=true∧(0≤o∧o≤100)
 ·refine bs ⟨c1.1,decide_eq_true c1.2⟩ ?_;rw[if_pos c1];refine Ev.bind (xI T nx p hT hA hp) ?_;have hf:=nU T p hA;simp only[wH];generalize lh T p=s at*
  by_cases c2:s.2=0
  ·refine bs c2 (bs (by omega) ?_);rw[if_pos c2]
   by_cases c3:o+(x.length:Int)>100
   ·refine bs c3 (eP (Ev.now _) (by rw[if_pos c3]))
   ·refine dv c3 ?_;rw[if_neg c3]
    have hm:max (s.1.f3.length:Int) (o+(x.length:Int))=((max s.1.f3.length (o.toNat+x.length):Nat):Int):=by have:=c1.2;omega
    have hsz:jq.f s.1.f3 (max (s.1.f3.length:Int) (o+(x.length:Int)))=some (rM s.1.f3 (max s.1.f3.length (o.toNat+x.length))):=by
     unfold jq.f;have:=hf.d;rw[hm,if_pos ⟨by omega,by omega⟩,Int.toNat_natCast]
     rfl
    have hl:=pv s.1.f3 (max s.1.f3.length (o.toNat+x.length));have hd:=hf.d;have ho:=c1.2;simp only[hsz,Option.bind_some];refine Ev.bind (abI T nx (acB s.1 (uf s.1.f3 o.toNat x)) hT hA ⟨?_,hf.e,hf.t⟩) (Ev.now _)
    show(uf s.1.f3 o.toNat x).length≤1048576
    simp only[uf,List.length_append,List.length_take,List.length_drop,hl]
    omega
  ·exact dv c2 (eP (Ev.now _) (by rw[if_neg c2]))
 ·refine dv (fun h=>c1 ⟨h.1,of_decide_eq_true h.2⟩) (eP (Ev.now _) (by rw[if_neg c1]))
end Go.Proofs.YtlecajlnjmbilaaGreatDoor.Q
namespace Go.Proofs.YtlecajlnjmbilaaGreatDoor.Q
open Go.RowKit Go.Proofs.YtlecajlnjmbilaaGreatDoor.P Go.Proofs.ae.au Go.Proofs.ae.ba Go.Proofs.ae.bg
structure Bd (Y:List bh):Prop where
 len:Y.length≤1048577
 a:∀y∈Y,gv y
 w:cN Y≤4611686018427380000
theorem we (x:bh) (h:gv x):lV x≤5242883:=by
 have h1:=h.d;have h2:=h.e;have h3:=h.t;unfold lV inW
 omega
theorem Bd.of (T:List bh) (hT:T.length≤1048576) (hA:∀x∈T,gv x) (hw:cN T≤1000000000000):Bd T:=⟨by omega,hA,by omega⟩
theorem Bd.set1 (T:List bh) (x:bh) (hT:T.length≤1048576) (hA:∀x∈T,gv x) (hw:cN T≤1000000000000) (hx:gv x):Bd (lE x T):=by
 have h1:=wb x T;have h2:=we x hx;refine⟨Nat.le_trans (uE _ _) (by omega),fun y hy=> ?_,by omega⟩;rcases abH _ _ _ hy with rfl|hy
 ·exact hx
 ·exact hA y hy
theorem Bd.filter {Y:List bh}(h:Bd Y) (f:bh→Bool):Bd (Y.filter f):=
 ⟨Nat.le_trans (List.length_filter_le ..) h.len,fun y hy=>h.a y (List.mem_filter.1 hy).1,Nat.le_trans (tq f Y) h.w⟩
theorem abe (l:List mo) (h:∀x∈l,ace x):∀x∈l.map jt,pC x:=by
 intro x hx;obtain⟨y,hy,rfl⟩:=List.mem_map.1 hx;have hS:=h y hy;refine⟨hS.d,by simpa [jt]using hS.e,by simpa [jt]using hS.t,fun z hz=> ?_,fun z hz=> ?_⟩
 ·obtain⟨u,hu,rfl⟩:=List.mem_map.1 hz;exact hS.en u hu
 ·obtain⟨u,hu,rfl⟩:=List.mem_map.1 hz;exact(hS.tn u hu).1
end Go.Proofs.YtlecajlnjmbilaaGreatDoor.Q
namespace Go.Proofs.YtlecajlnjmbilaaGreatDoor.Q
open Go.RowKit Go.Proofs.YtlecajlnjmbilaaGreatDoor.P Go.Proofs.ae.au Go.Proofs.ae.ba Go.Proofs.ae.bg
def pY (T:List bh) (p:ByteArray):bh×Int:=if(ki T p).2=0∧(ki T p).1.f1≠1 then(tw,3)else ki T p
theorem uF (T:List bh) (p:ByteArray):(pY T p).2=(lh T p).2:=by
 unfold pY lh;split<;>rfl
theorem uG (T:List bh) (p:ByteArray) (h:(lh T p).2=0):pY T p=lh T p:=by
 unfold lh at h;unfold pY lh
 split
 ·rename_i c;rw[if_pos c]at h;cases h
 ·rfl
theorem xJ (T:List bh) (nx:Int) (p:ByteArray) (hT:T.length≤1048576) (hs:∀x∈T,gv x) (hp:p.size≤1048576):Ev (fun k=>jr.f k T nx p) (wH (pY T p)):=by
 unfold jr.f pY;refine Ev.bind (xC T nx p hT hs hp) ?_;simp only[wH]
 by_cases c:(ki T p).2=0
 ·refine bs c ?_
  by_cases c2:(ki T p).1.f1=1
  ·refine bs c2 (eP (Ev.now _) ?_);rw[if_neg (fun h=>h.2 c2)]
  ·refine dv c2 (eP (Ev.now _) ?_);rw[if_pos ⟨c,c2⟩];rfl
 ·refine dv c (eP (Ev.now _) ?_);rw[if_neg (fun h=>c h.1)]
theorem ready_one (T:List bh) (nx:Int) (p:ByteArray):oZ T nx [p]=true↔(nX T nx=true∧(ju p).2=true):=by
 unfold oZ;simp only[List.all_cons,List.all_nil,Bool.and_true,Bool.and_eq_true];exact⟨fun h=>⟨h.2,h.1⟩,fun h=>⟨h.2,h.1⟩⟩
theorem abL (d:List Int) (n:Nat) (h:d.length≤n):rM d n=d++List.replicate (n-d.length) 0:=by
 unfold rM;rw[Nat.min_eq_left h,List.take_length,List.drop_replicate]
theorem wg (d x:List Int) (o i:Nat) (hi:i<x.length) (hd:o+x.length≤d.length):(d.take o++x.take i++d.drop (o+i)).set (o+i) x[i]=d.take o++x.take (i+1)++d.drop (o+(i+1)):=by
 have hl:(d.take o++x.take i).length=o+i:=by simp only[List.length_append,List.length_take];omega
 rw[List.set_append,if_neg (by rw[hl];omega),hl,Nat.sub_self,List.drop_eq_getElem_cons (by omega),List.set_cons_zero,List.take_succ_eq_append_getElem hi];simp only[List.append_assoc,List.cons_append,List.nil_append,Nat.add_assoc]
theorem rN (T:List bh) (nx:Int) (hT:T.length≤1048576) (hA:∀x∈T,gv x) (a b c:Int) (e:List eb) (t:List eh) (he:e.length≤1048576) (ht:t.length≤1048576)
  (D x:List Int) (o:Nat) (ho:o+x.length≤D.length) (hD:D.length≤1048576):Ev (fun k=>aw.l1 k (o:Int) x 0 T nx a b c D e t) (lE ⟨a,b,c,D.take o++x++D.drop (o+x.length),e,t⟩ T,nx,0):=by
 have key:=down (n:=x.length) (P:=fun i=>Ev (fun k=>aw.l1 k (o:Int) x (i:Nat) T nx a b c (D.take o++x.take i++D.drop (o+i)) e t) (lE ⟨a,b,c,D.take o++x++D.drop (o+x.length),e,t⟩ T,nx,0)) (by
  apply aV
  simp only[aw.l1];rw[List.take_length];refine dv (by omega) (Ev.bind (abJ T nx ⟨a,b,c,D.take o++x++D.drop (o+x.length),e,t⟩ hT hA ⟨?_,he,ht⟩) (Ev.now _))
  show(D.take o++x++D.drop (o+x.length)).length≤1048576
  simp only[List.length_append,List.length_take,List.length_drop];omega) (fun i hi h=>by
  have hr:rd x (i:Int)=x[i]:=getD_at x _ i hi
  have hw:wrap64 ((o:Int)+(i:Int))=((o+i:Nat):Int):=by rw[kT (by omega) (by omega)];omega
  apply aV
  simp only[aw.l1,hr,hw];refine bs (by omega) (bs (by omega) (bs (by omega) (bs (by simp only[List.length_append,List.length_take,List.length_drop];omega) ?_)));rw[Int.toNat_natCast,wg D x o i hi ho,my i x.length hi (by omega)]
  exact h)
 have h0:D.take o++x.take 0++D.drop (o+0)=D:=by rw[List.take_zero,List.append_nil,Nat.add_zero,List.take_append_drop]
 have key2:Ev (fun k=>aw.l1 k (o:Int) x ((0:Nat):Int) T nx a b c (D.take o++x.take 0++D.drop (o+0)) e t) (lE ⟨a,b,c,D.take o++x++D.drop (o+x.length),e,t⟩ T,nx,0):=key;rw[h0]at key2;exact key2
theorem nC (T:List bh) (nx:Int) (hT:T.length≤1048576) (hA:∀x∈T,gv x) (a b c:Int) (e:List eb) (t:List eh) (he:e.length≤1048576) (ht:t.length≤1048576) (x:List Int) (o:Nat) (ho:o+x.length≤1048576):
  ∀m (d:List Int),o+x.length-d.length=m→d.length≤1048576→Ev (fun k=>aw.l0 k (o:Int) x T nx a b c d e t) (lE ⟨a,b,c,(d++List.replicate m 0).take o++x++(d++List.replicate m 0).drop (o+x.length),e,t⟩ T,nx,0)
 |0,d,hm,hd=>by
  have hw:wrap64 ((o:Int)+(x.length:Int))=((o+x.length:Nat):Int):=by rw[kT (by omega) (by omega)];omega
  apply aV
  simp only[aw.l0,hw];refine dv (by omega) ?_;rw[List.replicate_zero,List.append_nil];exact rN T nx hT hA a b c e t he ht d x o (by omega) hd
 |m+1,d,hm,hd=>by
  have hw:wrap64 ((o:Int)+(x.length:Int))=((o+x.length:Nat):Int):=by rw[kT (by omega) (by omega)];omega
  apply aV
  simp only[aw.l0,hw];refine bs (by omega) (bs (by omega) ?_);have h:=nC T nx hT hA a b c e t he ht x o ho m (d++[0]) (by simp;omega) (by simp;omega);rw[show d++List.replicate (m+1) 0=(d++[0])++List.replicate m 0 by rw[List.append_assoc];rfl];exact h
theorem abM (d x:List Int) (o:Nat):(d++List.replicate (o+x.length-d.length) 0).take o++x++(d++List.replicate (o+x.length-d.length) 0).drop (o+x.length)=uf d o x:=by
 unfold uf;rw[abL d (max d.length (o+x.length)) (Nat.le_max_left ..),show max d.length (o+x.length)-d.length=o+x.length-d.length by omega]
theorem vB (T:List bh) (nx:Int) (p:ByteArray) (o:Int) (x:List Int) (hT:T.length≤1048576) (hs:∀x∈T,pC x) (hp:p.size≤1048576) (hx:x.length≤1048576):Ev (fun k=>aw.f k T nx p o x) (nj T nx p o x):=by
 have hA:∀x∈T,gv x:=fun x hx=>(hs x hx).a
 have bad:¬(oZ T nx [p]=true∧(0≤o∧o≤100))→Ev (fun k=>aw.j0 k p o x true T nx) (nj T nx p o x):=by
  intro c
  apply aV
  simp only[aw.j0];refine bs trivial (Ev.bind (kX T nx hT hA) (eP (Ev.now _) ?_));unfold nj;rw[if_neg c]
 unfold aw.f;refine Ev.bind (rB p hp) (Ev.bind (uC T nx hT hs) ?_)
 by_cases c1:nX T nx=true
 ·refine bs c1 ?_
  by_cases c2:(ju p).2=true
  ·refine bs c2 ?_;simp only[nn,Option.bind_some]
   by_cases c3:0≤o∧o≤100
   ·rw[decide_eq_true c3]
    apply aV
    simp only[aw.j0,Bool.not_true];refine dv (by decide) (Ev.bind (xJ T nx p hT hA hp) ?_);have hc:=uF T p;have hf:=nU T p hA;have hw:wrap64 (100-o)=100-o:=kT (by omega) (by omega);unfold nj;rw[if_pos ⟨(ready_one T nx p).2 ⟨c1,c2⟩,c3⟩];simp only[wH,hw]
    by_cases c4:(lh T p).2=0
    ·rw[uG T p c4];refine bs c4 ?_;rw[if_pos c4]
     by_cases c5:o+(x.length:Int)>100
     ·rw[decide_eq_true (show(x.length:Int)>100-o by omega),if_pos c5]
      apply aV
      simp only[aw.j1];refine bs trivial ?_
      apply aV
      simp only[aw.j2];exact dv (by decide) (Ev.bind (kX T nx hT hA) (Ev.now _))
     ·rw[decide_eq_false (show¬(x.length:Int)>100-o by omega),if_neg c5]
      apply aV
      simp only[aw.j1];refine dv (by decide) ?_
      apply aV
      simp only[aw.j2];refine bs c4 ?_;have hd:=hf.d;obtain⟨q,rfl⟩:∃q:Nat,o=(q:Int):=⟨o.toNat,by omega⟩;refine eP (nC T nx hT hA _ _ _ _ _ hf.e hf.t x q (by omega) _ (lh T p).1.f3 rfl hd) ?_;rw[abM,Int.toNat_natCast]
      rfl
    ·refine dv (by rw[hc];exact c4) ?_;rw[if_neg c4]
     apply aV
     simp only[aw.j1];refine dv (by decide) ?_
     apply aV
     simp only[aw.j2];refine dv (by rw[hc];exact c4) (Ev.bind (kX T nx hT hA) (eP (Ev.now _) ?_));rw[hc]
   ·rw[decide_eq_false c3];exact bad (fun h=>c3 h.2)
  ·exact dv c2 (bad (fun h=>c2 ((ready_one T nx p).1 h.1).2))
 ·exact dv c1 (bad (fun h=>c1 ((ready_one T nx p).1 h.1).1))
end Go.Proofs.YtlecajlnjmbilaaGreatDoor.Q
