/- What the functions that the law reaches answer, in plain words. No condition. -/
import Derived.Sort.Walk0
import Derived.Test.YtlecajlnjmbilaaGreatDoorKinds
import Derived.Test.YtlecajlnjmbilaaGreatDoorPx14
set_option linter.all false
namespace Go.Proofs.YtlecajlnjmbilaaGreatDoor.Q
open Go.RowKit Go.Proofs.ab.ar Go.Proofs.ab.aH Go.Proofs.ab.aN
theorem ba {α:Type}{g:Nat→Option α}{r:α}(h:Ev (fun k=>g (k+1)) r):Ev g r:=by
 obtain⟨K,h⟩:=h;refine⟨K+1,fun n hn=> ?_⟩;obtain⟨m,rfl⟩:∃m,n=m+1:=⟨n-1,by omega⟩;exact h m (by omega)
theorem bn {α:Type}{c:Prop} [Decidable c] {A B:Nat→Option α}{r:α}(hc:c) (h:Ev A r):Ev (fun k=>if c then A k else B k) r:=by
 simpa only[if_pos hc]using h
theorem dj {α:Type}{c:Prop} [Decidable c] {A B:Nat→Option α}{r:α}(hc:¬c) (h:Ev B r):Ev (fun k=>if c then A k else B k) r:=by
 simpa only[if_neg hc]using h
theorem zn {α:Type}{c:Prop} [Decidable c] {A B:Nat→Option α}{r s:α}(hp:c→Ev A r) (hn:¬c→Ev B s):Ev (fun k=>if c then A k else B k) (if c then r else s):=by
 by_cases hc:c
 ·simpa only[if_pos hc]using hp hc
 ·simpa only[if_neg hc]using hn hc
theorem wa {α:Type}{c:Prop} [Decidable c] {A B:Nat→Option α}{r:α}(hp:c→Ev A r) (hn:¬c→Ev B r):Ev (fun k=>if c then A k else B k) r:=by
 by_cases hc:c
 ·simpa only[if_pos hc]using hp hc
 ·simpa only[if_neg hc]using hn hc
theorem eP {α:Type}{g:Nat→Option α}{r s:α}(h:Ev g r) (e:r=s):Ev g s:=e▸h
theorem ly {n:Int}(h0: -9223372036854775808≤n) (h1:n≤9223372036854775807):wrap64 n=n:=by
 unfold wrap64
 omega
theorem drop_cons (l:List Int) (i:Nat) (h:i<l.length):l.drop i=rd l i::l.drop (i+1):=by
 rw[List.drop_eq_getElem_cons h];simp[Go.Proofs.ab.ar.rd,List.getElem?_eq_getElem h]
theorem toList_data (s:ByteArray):s.toList=s.data.toList:=by
 simp[ByteArray.toList_eq]
end Go.Proofs.YtlecajlnjmbilaaGreatDoor.Q
namespace Go.Proofs.YtlecajlnjmbilaaGreatDoor.Q
open Go.RowKit Go.Proofs.YtlecajlnjmbilaaGreatDoor.P Go.Proofs.ab.ar Go.Proofs.ab.aH Go.Proofs.ab.aN
def lz (c:Int):Bool:=decide (97≤c∧c≤122∨48≤c∧c≤57∨c=95∨c=45∨c=46)
def lq (s:ByteArray):Bool:=decide (1≤s.size∧s.size≤14)&&s.toList !=([46]:List UInt8)&&s.toList !=([46,46]:List UInt8)
def gn (s:ByteArray):Bool:=(bytesOf s).all lz&&lq s
theorem py (a b c:Int):bb.f a b c=some (decide (b≤a∧a≤c)):=by
 unfold bb.f
 by_cases h:a≥b
 ·rw[if_pos h];simp[show b≤a from h]
 ·rw[if_neg h];simp[show¬b≤a from h]
theorem uH (s:ByteArray):((bb.f (s.size:Int) 1 14).bind fun t101=>(if t101=true then(if s.toList=([46]:List UInt8)then(some false)else(some (s.toList !=([46,46]:List UInt8))))else(some false)))=some (lq s):=by
 rw[py];simp only[Option.bind_some,lq]
 by_cases h:1≤s.size∧s.size≤14
 ·rw[if_pos (by simp;omega)]
  by_cases h1:s.toList=[46]
  ·simp[h1]
  ·rw[if_neg h1];simp[h,h1]
 ·rw[if_neg (by simp;omega)];simp[h]
theorem uI (s:ByteArray):(if(s.size:Int)≥1 then(if(s.size:Int)≤14 then(if s.toList=([46]:List UInt8)then(some false)else(some (s.toList !=([46,46]:List UInt8))))else(some false))else(some false))=some (lq s):=by
 unfold lq
 by_cases h:1≤s.size
 ·rw[if_pos (by omega)]
  by_cases h2:s.size≤14
  ·rw[if_pos (by omega)]
   by_cases h1:s.toList=[46]
   ·simp[h1]
   ·rw[if_neg h1];simp[h,h2,h1]
  ·rw[if_neg (by omega)];simp[h2]
 ·rw[if_neg (by omega)];simp[h]
theorem sI (s:ByteArray) (i:Nat) (h:i<s.size):(bytesOf s).drop i=bt s i::(bytesOf s).drop (i+1):=by
 rw[drop_cons _ _ (by rw[bytesOf_length];exact h),xb]
theorem sJ (s:ByteArray) (hs:s.size≤9223372036854775807) (n:Nat):∀(i:Nat),i≤s.size→s.size-i=n→
  Ev (fun k=>aQ.l0 k s i) (((bytesOf s).drop i).all lz&&lq s):=by
 induction n with
 |zero=>
  intro i hi hn
  apply ba
  simp only[aQ.l0];refine dj (by omega) ?_;rw[uH,List.drop_eq_nil_of_le (by rw[bytesOf_length];omega)]
  simpa using Ev.now _
 |succ n ih=>
  intro i hi hn
  have hlt:i<s.size:=by omega
  have hr:=vA s i;have ih:=ih (i+1) (by omega) (by omega);rw[show((i+1:Nat):Int)=wrap64 ((i:Int)+1)from by rw[ly (by omega) (by omega)];simp]at ih
  apply ba
  simp only[aQ.l0,py,Option.bind_some];rw[sI s i hlt,List.all_cons];refine bn (by omega) (bn (by omega) ?_);rw[ly (by omega) (by omega)];generalize bt s i=c at*
  by_cases h1:97≤c∧c≤122
  ·refine bn (by simp[h1]) (eP ih ?_);simp[lz,h1]
  refine dj (by simp;omega) ?_
  by_cases h2:48≤c∧c≤57
  ·refine bn (by simp[h2]) (eP ih ?_);simp[lz,h2]
  refine dj (by simp;omega) ?_
  by_cases h3:c=95
  ·refine bn h3 (eP ih ?_);simp[lz,h3]
  refine dj h3 ?_
  by_cases h4:c=45
  ·refine bn h4 (eP ih ?_);simp[lz,h4]
  refine dj h4 ?_
  by_cases h5:c=46
  ·refine bn h5 (eP ih ?_);simp[lz,h5]
  refine dj h5 (eP (Ev.now _) ?_)
  have:lz c=false:=by simp[lz];omega
  simp[this]
theorem mw (s:ByteArray) (hs:s.size≤9223372036854775807):Ev (fun k=>aQ.f k s) (gn s):=by
 have h:=sJ s hs s.size 0 (by omega) (by omega)
 simpa [aQ.f,gn]using h
theorem sK (s:ByteArray) (hs:s.size≤9223372036854775807) (n:Nat):∀(i:Nat),i≤s.size→s.size-i=n→
  Ev (fun k=>aD.l0 k s (s.size:Int) i) (((bytesOf s).drop i).all lz&&lq s):=by
 induction n with
 |zero=>
  intro i hi hn
  apply ba
  simp only[aD.l0];refine dj (by omega) ?_;rw[uI,List.drop_eq_nil_of_le (by rw[bytesOf_length];omega)]
  simpa using Ev.now _
 |succ n ih=>
  intro i hi hn
  have hlt:i<s.size:=by omega
  have hr:=vA s i;have ih:=ih (i+1) (by omega) (by omega);rw[show((i+1:Nat):Int)=wrap64 ((i:Int)+1)from by rw[ly (by omega) (by omega)];simp]at ih
  apply ba
  simp only[aD.l0];rw[sI s i hlt,List.all_cons];refine bn (by omega) (bn (by omega) (bn (by omega) ?_));generalize bt s i=c at*
  by_cases hg:lz c=true
  ·have e:(((bytesOf s).drop (i+1)).all lz&&lq s)=(lz c&&((bytesOf s).drop (i+1)).all lz&&lq s):=by simp[hg]
   replace ih:=eP ih e;simp only[lz,decide_eq_true_eq]at hg
   repeat(first|exact ih|refine wa (fun _=> ?_) (fun _=> ?_)|(exfalso;omega))
  ·have e:false=(lz c&&((bytesOf s).drop (i+1)).all lz&&lq s):=by simp[hg]
   have no:=eP (Ev.now false) e;simp only[lz,decide_eq_true_eq]at hg
   repeat(first|exact no|refine wa (fun _=> ?_) (fun _=> ?_)|(exfalso;omega))
theorem qW (s:ByteArray) (hs:s.size≤9223372036854775807):Ev (fun k=>aD.f k s) (gn s):=by
 have h:=sK s hs s.size 0 (by omega) (by omega)
 simpa [aD.f,gn]using h
end Go.Proofs.YtlecajlnjmbilaaGreatDoor.Q
namespace Go.Proofs.YtlecajlnjmbilaaGreatDoor.Q
open Go.RowKit Go.Proofs.YtlecajlnjmbilaaGreatDoor.P Go.Proofs.ab.ar Go.Proofs.ab.aH Go.Proofs.ab.aN
theorem abe (l:List Int) (n i:Nat) (hn:n=l.length) (hi:i<n):(l.take i++List.replicate (n-i) 0).set i (rd l i)=l.take (i+1)++List.replicate (n-(i+1)) 0:=by
 subst hn;rw[List.set_append,if_neg (by rw[List.length_take];omega),show i-(l.take i).length=0 from by rw[List.length_take];omega];obtain⟨m,hm⟩:∃m,l.length-i=m+1:=⟨l.length-i-1,by omega⟩;rw[hm,List.replicate_succ,List.set_cons_zero,show l.length-(i+1)=m from by omega,List.take_succ_eq_append_getElem hi,List.append_assoc]
 have:rd l i=l[i]:=by simp[Go.Proofs.ab.ar.rd,List.getElem?_eq_getElem hi]
 rw[this]
 rfl
theorem uJ (l:List Int) (hl:l.length≤9223372036854775807) (n:Nat):∀(i:Nat),i≤l.length→l.length-i=n→
  Ev (fun k=>d_.l0 k l (l.take i++List.replicate (l.length-i) 0) i) l:=by
 induction n with
 |zero=>
  intro i hi hn
  apply ba
  simp only[d_.l0];refine dj (by omega) ?_;rw[List.take_of_length_le (by omega),hn]
  simpa using Ev.now l
 |succ n ih=>
  intro i hi hn;have ih:=ih (i+1) (by omega) (by omega);rw[show((i+1:Nat):Int)=wrap64 ((i:Int)+1)from by rw[ly (by omega) (by omega)];simp]at ih
  apply ba
  simp only[d_.l0];refine bn (by omega) (bn (by omega) (bn (by simp[List.length_append,List.length_take];omega) ?_));rw[Int.toNat_natCast,abe l _ i rfl (by omega)];exact ih
theorem xC (l:List Int) (hl:l.length≤281474976710656):Ev (fun k=>d_.f k l) l:=by
 have h:=uJ l (by omega) l.length 0 (by omega) (by omega)
 simpa [d_.f,hl]using h
theorem acf (a b:List Int) (i:Nat) (ha:i<a.length) (hb:i<b.length):decide (a.drop i=b.drop i)=(decide (rd a i=rd b i)&&decide (a.drop (i+1)=b.drop (i+1))):=by
 rw[drop_cons a i ha,drop_cons b i hb]
 by_cases h:rd a i=rd b i<;>simp[h]
theorem uK (a b:List Int) (hab:a.length=b.length) (hl:a.length≤9223372036854775807) (n:Nat):∀(i:Nat),i≤a.length→a.length-i=n→
  Ev (fun k=>dq.l0 k a b i) (decide (a.drop i=b.drop i)):=by
 induction n with
 |zero=>
  intro i hi hn
  apply ba
  simp only[dq.l0];refine dj (by omega) ?_;rw[List.drop_eq_nil_of_le (by omega),List.drop_eq_nil_of_le (by omega)]
  simpa using Ev.now true
 |succ n ih=>
  intro i hi hn;have ih:=ih (i+1) (by omega) (by omega);rw[show((i+1:Nat):Int)=wrap64 ((i:Int)+1)from by rw[ly (by omega) (by omega)];simp]at ih
  apply ba
  simp only[dq.l0];rw[acf a b i (by omega) (by omega)];refine bn (by omega) (bn (by omega) (bn (by omega) ?_))
  by_cases h:rd a i=rd b i
  ·refine bn h (eP ih ?_);simp[h]
  ·refine dj h (eP (Ev.now _) ?_);simp[h]
theorem xD (a b:List Int) (hl:a.length≤9223372036854775807):Ev (fun k=>dq.f k a b) (decide (a=b)):=by
 unfold dq.f
 by_cases h:a.length=b.length
 ·have h1:=uK a b h hl a.length 0 (by omega) (by omega);refine bn (by omega) ?_
  simpa using h1
 ·refine dj (by omega) (eP (Ev.now _) ?_)
  have:a≠b:=fun e=>h (by rw[e])
  simp[this]
end Go.Proofs.YtlecajlnjmbilaaGreatDoor.Q
namespace Go.Proofs.YtlecajlnjmbilaaGreatDoor.Q
open Go.RowKit Go.Proofs.ab.ar Go.Proofs.ab.aH Go.Proofs.ab.aN
theorem we {α β:Type}(xs:List α) (f:α→β) (z:β) (i:Nat) (hi:i<xs.length):
  ((xs.take i).map f++List.replicate (xs.length-i) z).set i (f xs[i])=(xs.take (i+1)).map f++List.replicate (xs.length-(i+1)) z:=by
 rw[List.set_append,if_neg (by simp;omega)];obtain⟨m,hm⟩:∃m,xs.length-i=m+1:=⟨xs.length-i-1,by omega⟩;rw[hm,List.replicate_succ,show i-((xs.take i).map f).length=0 from by simp;omega,List.set_cons_zero,show xs.length-(i+1)=m from by omega,List.take_succ_eq_append_getElem hi,List.map_append,List.append_assoc]
 rfl
theorem uL {α β:Type}(L:Nat→List β→Int→Option (List β)) (xs:List α) (f:α→β) (z:β)
  (h1:∀ys:List β,Ev (fun k=>L k ys (xs.length:Nat)) ys)
  (h2:∀(i:Nat) (hi:i<xs.length) (ys:List β),ys.length=xs.length→∀R,Ev (fun k=>L k (ys.set i (f xs[i])) ((i+1:Nat):Int)) R→Ev (fun k=>L k ys (i:Nat)) R):
  Ev (fun k=>L k (List.replicate xs.length z) 0) (xs.map f):=by
 have key:∀n i:Nat,xs.length-i=n→i≤xs.length→Ev (fun k=>L k ((xs.take i).map f++List.replicate (xs.length-i) z) (i:Nat)) (xs.map f):=by
  intro n
  induction n with
  |zero=>
   intro i hn hi
   obtain rfl:i=xs.length:=by omega
   simpa using h1 (xs.map f)
  |succ n ih=>
   intro i hn hi;refine h2 i (by omega) _ (by simp;omega) _ ?_;rw[we xs f z i (by omega)];exact ih (i+1) (by omega) (by omega)
 simpa using key xs.length 0 (by omega) (by omega)
theorem uM {γ:Type}(L:Nat→Int→Option γ) (n:Nat) (R:γ) (h1:Ev (fun k=>L k (n:Nat)) R) (h2:∀i:Nat,i<n→Ev (fun k=>L k ((i+1:Nat):Int)) R→Ev (fun k=>L k (i:Nat)) R):Ev (fun k=>L k 0) R:=by
 have key:∀m i:Nat,n-i=m→i≤n→Ev (fun k=>L k (i:Nat)) R:=by
  intro m
  induction m with
  |zero=>
   intro i hm hi
   obtain rfl:i=n:=by omega
   exact h1
  |succ m ih=>
   intro i hm hi;exact h2 i (by omega) (ih (i+1) (by omega) (by omega))
 simpa using key n 0 (by omega) (by omega)
theorem yz {α γ:Type}(L:Nat→Int→Option γ) (xs:List α) (F:List α→γ) (h1:Ev (fun k=>L k (xs.length:Nat)) (F []))
  (h2:∀(i:Nat) (hi:i<xs.length),Ev (fun k=>L k ((i+1:Nat):Int)) (F (xs.drop (i+1)))→Ev (fun k=>L k (i:Nat)) (F (xs[i]::xs.drop (i+1)))):Ev (fun k=>L k 0) (F xs):=by
 have key:∀m i:Nat,xs.length-i=m→i≤xs.length→Ev (fun k=>L k (i:Nat)) (F (xs.drop i)):=by
  intro m
  induction m with
  |zero=>
   intro i hm hi
   obtain rfl:i=xs.length:=by omega
   rw[List.drop_length];exact h1
  |succ m ih=>
   intro i hm hi;rw[List.drop_eq_getElem_cons (by omega)];exact h2 i (by omega) (ih (i+1) (by omega) (by omega))
 simpa using key xs.length 0 (by omega) (by omega)
theorem getD_at {α:Type}(xs:List α) (z:α) (i:Nat) (hi:i<xs.length):xs.getD ((i:Nat):Int).toNat z=xs[i]:=by
 simp[List.getD_eq_getElem?_getD,List.getElem?_eq_getElem hi]
theorem sL {γ:Type}(L:Nat→Int→Int→Option γ) (n:Nat) (I:Nat→Int→Prop) (Z:γ→Prop) (h1:∀a,I n a→∃R,Ev (fun k=>L k a (n:Nat)) R∧Z R)
  (h2:∀(i:Nat) (a:Int),i<n→I i a→(∃R,Ev (fun k=>L k a (i:Nat)) R∧Z R)∨∃b,I (i+1) b∧∀R,Ev (fun k=>L k b ((i+1:Nat):Int)) R→Ev (fun k=>L k a (i:Nat)) R) (a:Int) (ha:I 0 a):∃R,Ev (fun k=>L k a 0) R∧Z R:=by
 have key:∀m i:Nat,n-i=m→i≤n→∀a,I i a→∃R,Ev (fun k=>L k a (i:Nat)) R∧Z R:=by
  intro m
  induction m with
  |zero=>
   intro i hm hi a ha
   obtain rfl:i=n:=by omega
   exact h1 a ha
  |succ m ih=>
   intro i hm hi a ha;rcases h2 i a (by omega) ha with h|⟨b,hb,h⟩
   ·exact h
   ·obtain⟨R,hR,hZ⟩:=ih (i+1) (by omega) (by omega) b hb;exact⟨R,h R hR,hZ⟩
 simpa using key n 0 (by omega) (by omega) a ha
end Go.Proofs.YtlecajlnjmbilaaGreatDoor.Q
namespace Go.Proofs.YtlecajlnjmbilaaGreatDoor.Q
open Go.RowKit Go.Proofs.YtlecajlnjmbilaaGreatDoor.P Go.Proofs.ab.ar Go.Proofs.ab.aH Go.Proofs.ab.aN
def marks (n:Nat) (k:Int):List Int:=(List.range n).map fun(i:Nat)=>(k+(i:Int))%256
theorem gv (n:Nat) (k:Int):(marks n k).length=n:=by simp[marks]
theorem abf (n:Nat) (k:Int) (i:Nat) (h:i<n):rd (marks n k) i=(k+i)%256:=by
 simp[Go.Proofs.ab.ar.rd,marks,h]
theorem abg (xs:List Int) (k:Int) (i:Nat) (h:i<xs.length):(marks i k++xs.drop i).set i ((k+i)%256)=marks (i+1) k++xs.drop (i+1):=by
 rw[List.set_append,if_neg (by rw[gv];omega),gv,Nat.sub_self,List.drop_eq_getElem_cons h,List.set_cons_zero];simp[marks,List.range_succ]
theorem zo (xs:List Int) (k0:Int) (hk:0≤k0) (hk1:k0+xs.length≤9223372036854775807) (n:Nat):∀(i:Nat),i≤xs.length→xs.length-i=n→
  Ev (fun k=>db.l0 k (marks i k0++xs.drop i) (k0+i) i) (k0+xs.length,marks xs.length k0):=by
 induction n with
 |zero=>
  intro i hi hn
  apply ba
  simp only[db.l0]
  obtain rfl:i=xs.length:=by omega
  refine dj (by simp[gv]) (eP (Ev.now _) ?_);simp
 |succ n ih=>
  intro i hi hn;have ih:=ih (i+1) (by omega) (by omega);rw[show((i+1:Nat):Int)=(i:Int)+1 from by omega]at ih
  apply ba
  simp only[db.l0];refine bn (by simp[gv];omega) (bn (by omega) ?_);rw[Int.toNat_natCast,abg xs k0 i (by omega),ly (n:=k0+(i:Int)+1) (by omega) (by omega),ly (n:=(i:Int)+1) (by omega) (by omega),Int.add_assoc];exact ih
theorem uN (xs:List Int) (k0:Int) (hk:0≤k0) (hk1:k0+xs.length≤9223372036854775807):Ev (fun k=>db.f k xs k0) (k0+xs.length,marks xs.length k0):=by
 have h:=zo xs k0 hk hk1 xs.length 0 (by omega) (by omega)
 simpa [db.f,marks]using h
theorem zp (m:Nat) (k0:Int) (hk:0≤k0) (hk1:k0+m≤9223372036854775807) (n:Nat):∀(i:Nat),i≤m→m-i=n→
  Ev (fun k=>dk.l0 k (marks m k0) (k0+i) i) (k0+m):=by
 induction n with
 |zero=>
  intro i hi hn
  apply ba
  simp only[dk.l0]
  obtain rfl:i=m:=by omega
  exact dj (by simp[gv]) (Ev.now _)
 |succ n ih=>
  intro i hi hn;have ih:=ih (i+1) (by omega) (by omega);rw[show((i+1:Nat):Int)=(i:Int)+1 from by omega]at ih
  apply ba
  simp only[dk.l0];refine bn (by simp[gv];omega) (bn (by omega) (bn (abf m k0 i (by omega)) ?_));rw[ly (n:=k0+(i:Int)+1) (by omega) (by omega),ly (n:=(i:Int)+1) (by omega) (by omega),Int.add_assoc];exact ih
theorem uO (m:Nat) (k0:Int) (hk:0≤k0) (hk1:k0+m≤9223372036854775807):Ev (fun k=>dk.f k (marks m k0) k0) (k0+m):=by
 have h:=zp m k0 hk hk1 m 0 (by omega) (by omega)
 simpa [dk.f]using h
end Go.Proofs.YtlecajlnjmbilaaGreatDoor.Q
namespace Go.Proofs.YtlecajlnjmbilaaGreatDoor.Q
open Go.RowKit Go.Proofs.YtlecajlnjmbilaaGreatDoor.P Go.Proofs.ab.ar Go.Proofs.ab.aH Go.Proofs.ab.aN
def acg (x:ky):cA:=⟨x.f0,x.f1⟩
def yA (x:kz):eu:=⟨x.f0,x.f1⟩
theorem nT (i:Nat) (n:Nat) (hi:i<n) (hn:n≤9223372036854775807):wrap64 ((i:Int)+1)=((i+1:Nat):Int):=by
 rw[ly (by omega) (by omega)];omega
theorem zq (l:List ky) (hl:l.length≤11728124029610):Ev (fun k=>eE.f k l) (l.map acg):=by
 unfold eE.f;refine bn (by omega) (bn (by omega) ?_);rw[Int.toNat_natCast];refine uL (fun k ys i=>eE.l0 k l ys i) l acg _ (fun ys=> ?_) (fun i hi ys hy R h=> ?_)
 ·apply ba
  simp only[eE.l0];exact dj (by omega) (Ev.now _)
 ·apply ba
  simp only[eE.l0,lI.f,Option.bind_some];refine bn (by omega) (bn (by omega) (bn (by omega) ?_));rw[nT i l.length hi (by omega),Int.toNat_natCast];simp only[iJ,getD_at l _ i hi];exact h
theorem xE (l:List kz) (hl:l.length≤8796093022208):Ev (fun k=>eb.f k l) (l.map yA):=by
 unfold eb.f;refine bn (by omega) (bn (by omega) ?_);rw[Int.toNat_natCast];refine uL (fun k ys i=>eb.l0 k l ys i) l yA _ (fun ys=> ?_) (fun i hi ys hy R h=> ?_)
 ·apply ba
  simp only[eb.l0];exact dj (by omega) (Ev.now _)
 ·apply ba
  simp only[eb.l0,kZ.f,Option.bind_some];refine bn (by omega) (bn (by omega) (bn (by omega) ?_));rw[nT i l.length hi (by omega),Int.toNat_natCast];simp only[iB,getD_at l _ i hi];exact h
theorem xF (a b c:Int) (d:List Int) (e:List ky) (t:List kz) (hd:d.length≤1048576) (he:e.length≤1048576) (ht:t.length≤1048576):
  Ev (fun k=>jw.f k a b c d e t) (a,b,c,d,e.map acg,t.map yA):=by
 unfold jw.f;exact Ev.bind (xC d (by omega)) (Ev.bind (zq e (by omega)) (Ev.bind (xE t (by omega)) (Ev.now _)))
theorem wg (l:List cA) (hl:l.length≤9223372036854775807):Ev (fun k=>cF.f k l l) true:=by
 unfold cF.f;refine bn rfl (uM (fun k i=>cF.l0 k l l i) l.length true ?_ (fun i hi h=> ?_))
 ·apply ba
  simp only[cF.l0];exact dj (by omega) (Ev.now _)
 ·apply ba
  simp only[cF.l0,kW.f,if_true,Option.bind_some];refine bn (by omega) (bn (by omega) (bn (by omega) ?_));rw[nT i l.length hi hl];exact h
theorem uP (l:List eu) (hl:l.length≤9223372036854775807):Ev (fun k=>cv.f k l l) true:=by
 unfold cv.f;refine bn rfl (uM (fun k i=>cv.l0 k l l i) l.length true ?_ (fun i hi h=> ?_))
 ·apply ba
  simp only[cv.l0];exact dj (by omega) (Ev.now _)
 ·apply ba
  simp only[cv.l0,kj.f,if_true,Option.bind_some];refine bn (by omega) (bn (by omega) (bn (by omega) ?_));rw[nT i l.length hi hl];exact h
theorem uQ (a b c:Int) (d:List Int) (e:List cA) (t:List eu) (hd:d.length≤9223372036854775807) (he:e.length≤9223372036854775807) (ht:t.length≤9223372036854775807):
  Ev (fun k=>iS.f k a b c d e t a b c d e t) true:=by
 unfold iS.f;refine bn rfl (bn rfl (bn rfl (Ev.bind (xD d d hd) (bn (by simp) (Ev.bind (wg e he) (bn rfl (Ev.bind (uP t ht) (bn rfl (Ev.now _)))))))))
theorem xG (d:List Int) (n:Int) (h0:0≤n) (h1:n≤1048576) (hd:d.length≤9223372036854775807):∃R,gp.f d n=some R∧(0≤R→R=n-d.length)∧R≤n:=by
 unfold gp.f;rw[ly (by omega) (by omega)]
 by_cases h:n-(d.length:Int)<0
 ·rw[if_pos h];exact⟨_,rfl,fun h=>by omega,by omega⟩
 ·rw[if_neg h];exact⟨_,rfl,fun _=>rfl,by omega⟩
def yB (l:List ky):Nat:=(l.map fun e=>e.f0.size).sum
def uR (l:List kz):Nat:=(l.map fun e=>e.f0.size+e.f1.size).sum
theorem sM {α:Type}(f:α→Nat) (l:List α) (i:Nat) (hi:i<l.length):((l.take (i+1)).map f).sum=((l.take i).map f).sum+f l[i]:=by
 rw[List.take_succ_eq_append_getElem hi,List.map_append,List.sum_append];simp
theorem zu (l:List ky) (n:Int) (h0:0≤n) (h1:n≤1048576) (hl:l.length≤9223372036854775807) (hg:∀e∈l,e.f0.size≤9223372036854775807):
  ∃R,Ev (fun k=>ez.f k l n) R∧(0≤R→R=n-l.length-yB l)∧R≤n:=by
 unfold ez.f;rw[ly (by omega) (by omega)]
 by_cases h:n-(l.length:Int)<0
 ·exact⟨-1,bn h (Ev.now _),fun h=>by omega,by omega⟩
 ·obtain⟨R,hR,hZ⟩:=sL (fun k a i=>ez.l0 k l a i) l.length (fun i a=>0≤a∧a=n-l.length-((l.take i).map fun e=>e.f0.size).sum) (fun R=>(0≤R→R=n-l.length-yB l)∧R≤n)
   (fun a ha=>⟨a,by
    apply ba
    simp only[ez.l0]
    exact dj (by omega) (Ev.now _),fun _=>by rw[ha.2,List.take_length];rfl,by omega⟩)
   (fun i a hi ha=>by
    have hm:=hg l[i] (List.getElem_mem hi);have hs:=sM (fun e:ky=>e.f0.size) l i hi
    by_cases hlt:a-(l[i].f0.size:Int)<0
    ·refine .inl ⟨-1,?_,fun h=>by omega,by omega⟩
     apply ba
     simp only[ez.l0,km.f,iJ,getD_at l _ i hi];rw[ly (n:=a-(l[i].f0.size:Int)) (by omega) (by omega),if_pos hlt];simp only[Option.bind_some];exact bn (by omega) (bn (by omega) (bn (by omega) (Ev.now _)))
    ·refine .inr ⟨a-(l[i].f0.size:Int),⟨by omega,by rw[hs];omega⟩,fun R h=> ?_⟩
     apply ba
     simp only[ez.l0,km.f,iJ,getD_at l _ i hi];rw[ly (n:=a-(l[i].f0.size:Int)) (by omega) (by omega),if_neg hlt];simp only[Option.bind_some];refine bn (by omega) (bn (by omega) (dj (by omega) ?_));rw[nT i l.length hi hl]
     exact h) (n-l.length) ⟨by omega,by simp⟩
  exact⟨R,dj h hR,hZ⟩
theorem xH (l:List kz) (n:Int) (h0:0≤n) (h1:n≤1048576) (hl:l.length≤9223372036854775807) (hg:∀e∈l,e.f0.size≤9223372036854775807∧e.f1.size≤9223372036854775807):
  ∃R,Ev (fun k=>dr.f k l n) R∧(0≤R→R=n-l.length-uR l)∧R≤n:=by
 unfold dr.f;rw[ly (by omega) (by omega)]
 by_cases h:n-(l.length:Int)<0
 ·exact⟨-1,bn h (Ev.now _),fun h=>by omega,by omega⟩
 ·obtain⟨R,hR,hZ⟩:=sL (fun k a i=>dr.l0 k l a i) l.length (fun i a=>0≤a∧a=n-l.length-((l.take i).map fun e=>e.f0.size+e.f1.size).sum) (fun R=>(0≤R→R=n-l.length-uR l)∧R≤n)
   (fun a ha=>⟨a,by
    apply ba
    simp only[dr.l0]
    exact dj (by omega) (Ev.now _),fun _=>by rw[ha.2,List.take_length];rfl,by omega⟩)
   (fun i a hi ha=>by
    have hm:=hg l[i] (List.getElem_mem hi);have hs:=sM (fun e:kz=>e.f0.size+e.f1.size) l i hi
    by_cases hlt:a-(l[i].f0.size:Int)<0
    ·refine .inl ⟨-1,?_,fun h=>by omega,by omega⟩
     apply ba
     simp only[dr.l0,iR.f,iB,getD_at l _ i hi];rw[ly (n:=a-(l[i].f0.size:Int)) (by omega) (by omega),if_pos hlt];simp only[Option.bind_some];exact bn (by omega) (bn (by omega) (bn (by omega) (Ev.now _)))
    ·by_cases hlt2:a-(l[i].f0.size:Int)-(l[i].f1.size:Int)<0
     ·refine .inl ⟨-1,?_,fun h=>by omega,by omega⟩
      apply ba
      simp only[dr.l0,iR.f,iB,getD_at l _ i hi];rw[ly (n:=a-(l[i].f0.size:Int)) (by omega) (by omega),if_neg hlt,ly (n:=a-(l[i].f0.size:Int)-(l[i].f1.size:Int)) (by omega) (by omega),if_pos hlt2];simp only[Option.bind_some];exact bn (by omega) (bn (by omega) (bn (by omega) (Ev.now _)))
     ·refine .inr ⟨a-(l[i].f0.size:Int)-(l[i].f1.size:Int),⟨by omega,by rw[hs];omega⟩,fun R h=> ?_⟩
      apply ba
      simp only[dr.l0,iR.f,iB,getD_at l _ i hi];rw[ly (n:=a-(l[i].f0.size:Int)) (by omega) (by omega),if_neg hlt,ly (n:=a-(l[i].f0.size:Int)-(l[i].f1.size:Int)) (by omega) (by omega),if_neg hlt2];simp only[Option.bind_some];refine bn (by omega) (bn (by omega) (dj (by omega) ?_));rw[nT i l.length hi hl]
      exact h) (n-l.length) ⟨by omega,by simp⟩
  exact⟨R,dj h hR,hZ⟩
def qz (d:List Int) (e:List ky) (t:List kz):Nat:=d.length+e.length+yB e+t.length+uR t
theorem xI (a b c:Int) (d:List Int) (e:List ky) (t:List kz) (n:Int) (h0:0≤n) (h1:n≤1048576) (hd:d.length≤9223372036854775807) (he:e.length≤9223372036854775807) (ht:t.length≤9223372036854775807)
  (ge:∀x∈e,x.f0.size≤9223372036854775807) (gt:∀x∈t,x.f0.size≤9223372036854775807∧x.f1.size≤9223372036854775807):
  ∃R,Ev (fun k=>iT.f k a b c d e t n) R∧(0≤R→R=n-qz d e t)∧R≤n:=by
 unfold iT.f;obtain⟨R1,e1,z1,l1⟩:=xG d n h0 h1 hd;simp only[e1,Option.bind_some]
 by_cases c1:R1<0
 ·exact⟨-1,bn c1 (Ev.now _),fun h=>by omega,by omega⟩
 obtain⟨R2,e2,z2,l2⟩:=zu e R1 (by omega) (by omega) he ge
 by_cases c2:R2<0
 ·exact⟨-1,dj c1 (Ev.bind e2 (bn c2 (Ev.now _))),fun h=>by omega,by omega⟩
 obtain⟨R3,e3,z3,l3⟩:=xH t R2 (by omega) (by omega) ht gt
 by_cases c3:R3<0
 ·exact⟨-1,dj c1 (Ev.bind e2 (dj c2 (Ev.bind e3 (bn c3 (Ev.now _))))),fun h=>by omega,by omega⟩
 ·refine⟨R3,dj c1 (Ev.bind e2 (dj c2 (Ev.bind e3 (dj c3 (Ev.now _))))),fun h=> ?_,by omega⟩;have:=z1 (by omega);have:=z2 (by omega);have:=z3 (by omega);unfold qz
  omega
end Go.Proofs.YtlecajlnjmbilaaGreatDoor.Q
namespace Go.Proofs.YtlecajlnjmbilaaGreatDoor.Q
open Go.RowKit Go.Proofs.YtlecajlnjmbilaaGreatDoor.P Go.Proofs.ab.ar Go.Proofs.ab.aH Go.Proofs.ab.aN
theorem down {n:Nat}{P:Nat→Prop}(h1:P n) (h2:∀i,i<n→P (i+1)→P i):P 0:=by
 have key:∀m i:Nat,n-i=m→i≤n→P i:=by
  intro m
  induction m with
  |zero=>
   intro i hm hi
   obtain rfl:i=n:=by omega
   exact h1
  |succ m ih=>intro i hm hi;exact h2 i (by omega) (ih (i+1) (by omega) (by omega))
 exact key n 0 (by omega) (by omega)
def ks (x:nL):aX:=⟨x.f0,x.f1,x.f2,x.f3,x.f4.map acg,x.f5.map yA⟩
def adx (x:nL):Prop:=x.f3.length≤1048576∧x.f4.length≤1048576∧x.f5.length≤1048576
theorem wh (l:List nL) (hl:l.length≤1048576) (hb:∀x∈l,adx x):Ev (fun k=>dh.f k l) (l.map ks):=by
 unfold dh.f;refine bn (by omega) (bn (by omega) ?_);rw[Int.toNat_natCast];refine uL (fun k ys i=>dh.l0 k l ys i) l ks _ (fun ys=> ?_) (fun i hi ys hy R h=> ?_)
 ·apply ba
  simp only[dh.l0];exact dj (by omega) (Ev.now _)
 ·have hB:=hb l[i] (List.getElem_mem hi);have ht:=xF l[i].f0 l[i].f1 l[i].f2 l[i].f3 l[i].f4 l[i].f5 hB.1 hB.2.1 hB.2.2
  apply ba
  simp only[dh.l0,cJ,getD_at l _ i hi];refine bn (by omega) (bn (by omega) (Ev.bind ht (bn (by omega) ?_)));rw[nT i l.length hi (by omega),Int.toNat_natCast];exact h
theorem aa_ (l:List nL) (n:Int) (hl:l.length≤1048576) (hb:∀x∈l,adx x):Ev (fun k=>iX.f k l n) (l.map ks,n):=by
 unfold iX.f;exact Ev.bind (wh l hl hb) (Ev.now _)
theorem tx (l:List aX) (hl:l.length≤9223372036854775807) (hb:∀x∈l,x.f3.length≤9223372036854775807∧x.f4.length≤9223372036854775807∧x.f5.length≤9223372036854775807):Ev (fun k=>cg.f k l l) true:=by
 unfold cg.f;refine bn rfl ?_;refine uM (fun k i=>cg.l0 k l l i) l.length true ?_ (fun i hi h=> ?_)
 ·apply ba
  simp only[cg.l0];exact dj (by omega) (Ev.now _)
 ·have hB:=hb l[i] (List.getElem_mem hi)
  apply ba
  simp only[cg.l0,af,getD_at l _ i hi];refine bn (by omega) (bn (by omega) (bn (by omega) (Ev.bind (uQ _ _ _ _ _ _ hB.1 hB.2.1 hB.2.2) (bn rfl ?_))));rw[nT i l.length hi hl];exact h
theorem sN (l:List aX) (n:Int) (hl:l.length≤9223372036854775807) (hb:∀x∈l,x.f3.length≤9223372036854775807∧x.f4.length≤9223372036854775807∧x.f5.length≤9223372036854775807):Ev (fun k=>gl.f k l n l n) true:=by
 unfold gl.f;exact Ev.bind (tx l hl hb) (bn rfl (bn rfl (Ev.now _)))
def ady (x:nL):Prop:=x.f3.length≤9223372036854775807∧x.f4.length≤9223372036854775807∧x.f5.length≤9223372036854775807∧(∀e∈x.f4,e.f0.size≤9223372036854775807)∧(∀e∈x.f5,e.f0.size≤9223372036854775807∧e.f1.size≤9223372036854775807)
def qA (x:nL):Nat:=qz x.f3 x.f4 x.f5
def rz (l:List nL):Nat:=l.length+(l.map qA).sum
theorem wi (l:List nL) (n:Int) (h0:0≤n) (h1:n≤1048576) (hl:l.length≤9223372036854775807) (hg:∀x∈l,ady x):
  ∃R,Ev (fun k=>dg.f k l n) R∧(0≤R→R=n-rz l)∧R≤n:=by
 unfold dg.f;rw[ly (by omega) (by omega)]
 by_cases h:n-(l.length:Int)<0
 ·exact⟨-1,bn h (Ev.now _),fun h=>by omega,by omega⟩
 ·obtain⟨R,hR,hZ⟩:=sL (fun k a i=>dg.l0 k l a i) l.length (fun i a=>0≤a∧a≤n∧a=n-l.length-((l.take i).map qA).sum) (fun R=>(0≤R→R=n-rz l)∧R≤n)
   (fun a ha=>⟨a,by
    apply ba
    simp only[dg.l0]
    exact dj (by omega) (Ev.now _),fun _=>by rw[ha.2.2,List.take_length];unfold rz;omega,by omega⟩)
   (fun i a hi ha=>by
    obtain⟨m1,m2,m3,m4,m5⟩:=hg l[i] (List.getElem_mem hi);have hs:=sM qA l i hi;obtain⟨R1,e1,z1,l1⟩:=xI l[i].f0 l[i].f1 l[i].f2 l[i].f3 l[i].f4 l[i].f5 a ha.1 (by omega) m1 m2 m3 m4 m5
    by_cases hlt:R1<0
    ·refine .inl ⟨-1,?_,fun h=>by omega,by omega⟩
     apply ba
     simp only[dg.l0,cJ,getD_at l _ i hi];exact bn (by omega) (bn (by omega) (Ev.bind e1 (bn hlt (Ev.now _))))
    ·have z1:=z1 (by omega);refine .inr ⟨R1,⟨by omega,by omega,by rw[hs];unfold qA at*;omega⟩,fun R h=> ?_⟩
     apply ba
     simp only[dg.l0,cJ,getD_at l _ i hi];refine bn (by omega) (bn (by omega) (Ev.bind e1 (dj hlt ?_)));rw[nT i l.length hi hl]
     exact h) (n-l.length) ⟨by omega,by omega,by simp⟩
  exact⟨R,dj h hR,hZ⟩
theorem aa8 (l:List nL) (nx n:Int) (h0:0≤n) (h1:n≤1048576) (hl:l.length≤9223372036854775807) (hg:∀x∈l,ady x):
  ∃R,Ev (fun k=>kf.f k l nx n) R∧(0≤R→R=n-rz l)∧R≤n:=by
 obtain⟨R,e,z,h⟩:=wi l n h0 h1 hl hg;unfold kf.f
 by_cases c:R<0
 ·exact⟨-1,Ev.bind e (bn c (Ev.now _)),fun h=>by omega,by omega⟩
 ·exact⟨R,Ev.bind e (dj c (Ev.now _)),z,h⟩
theorem qa {α:Type}(f:α→Nat) (l:List α) (x:α) (h:x∈l):f x≤(l.map f).sum:=by
 induction l with
 |nil=>cases h
 |cons y l ih=>
  rw[List.map_cons,List.sum_cons];rcases List.mem_cons.1 h with rfl|h
  ·omega
  ·have:=ih h;omega
structure ach (x:nL):Prop where
 d:x.f3.length≤1048576
 e:x.f4.length≤1048576
 t:x.f5.length≤1048576
 en:∀y∈x.f4,y.f0.size≤1048576
 tn:∀y∈x.f5,y.f0.size≤1048576∧y.f1.size≤1048576
theorem aci (x:nL) (h:qA x≤1048576):ach x:=by
 unfold qA qz at h;refine⟨by omega,by omega,by omega,fun y hy=> ?_,fun y hy=> ?_⟩
 ·have:=qa (fun e:ky=>e.f0.size) x.f4 y hy;unfold yB at h
  omega
 ·have:=qa (fun e:kz=>e.f0.size+e.f1.size) x.f5 y hy;unfold uR at h
  omega
theorem zm (l:List nL) (h:rz l≤1048576):l.length≤1048576∧∀x∈l,ach x:=by
 unfold rz at h;refine⟨by omega,fun x hx=>aci x ?_⟩;have:=qa qA l x hx
 omega
end Go.Proofs.YtlecajlnjmbilaaGreatDoor.Q
namespace Go.Proofs.YtlecajlnjmbilaaGreatDoor.Q
open Go.RowKit Go.Proofs.YtlecajlnjmbilaaGreatDoor.P Go.Proofs.YtlecajlnjmbilaaGreatDoor.Kinds Go.Proofs.ab.ar Go.Proofs.ab.aH Go.Proofs.ab.aN
theorem aa9 (l:List nL) (h:∀x∈l,g92 x):∀x∈l,ady x:=by
 intro x hx;obtain⟨_,_,_,⟨hd,_⟩,⟨he,ge⟩,⟨ht,gt⟩⟩:=h x hx;have hM:maxLen=9223372036854775807:=rfl;simp only[hM]at*;exact⟨hd,he,ht,fun e h=>(ge e h).1,fun e h=>gt e h⟩
theorem acb (l:List nL) (h:∀x∈l,ach x):∀x∈l,adx x:=fun x hx=>⟨(h x hx).d,(h x hx).e,(h x hx).t⟩
end Go.Proofs.YtlecajlnjmbilaaGreatDoor.Q
namespace Go.Proofs.YtlecajlnjmbilaaGreatDoor.Q
open Go.RowKit Go.Proofs.YtlecajlnjmbilaaGreatDoor.P Go.Proofs.ab.ar Go.Proofs.ab.aH Go.Proofs.ab.aN
def ad7 (a b:ByteArray):Bool:=Op.bytesLess a.toList b.toList
def upTo (p:Option ByteArray) (s:ByteArray):Bool:=match p with|none=>true|some q=>ad7 q s
def me:Option ByteArray→List cA→Bool
 |_,[]=>true
 |p,e::l=>gn e.f0&&decide (2≤e.f1∧e.f1≤1000)&&upTo p e.f0&&me (some e.f0) l
def nH:Option ByteArray→List eu→Bool
 |_,[]=>true
 |p,e::l=>gn e.f0&&decide (1≤e.f1.size∧e.f1.size≤16)&&upTo p e.f0&&nH (some e.f0) l
def kd (l:List cA) (i:Nat):Option ByteArray:=if i=0 then none else some (al l ((i:Int)-1)).f0
def iW (l:List eu) (i:Nat):Option ByteArray:=if i=0 then none else some (aw l ((i:Int)-1)).f0
theorem qB (l:List cA) (i:Nat) (h:i<l.length):kd l (i+1)=some l[i].f0:=by
 unfold kd;rw[if_neg (by omega),show(((i+1:Nat):Int)-1)=(i:Int)from by omega,al,getD_at l _ i h]
theorem pO (l:List eu) (i:Nat) (h:i<l.length):iW l (i+1)=some l[i].f0:=by
 unfold iW;rw[if_neg (by omega),show(((i+1:Nat):Int)-1)=(i:Int)from by omega,aw,getD_at l _ i h]
def pg (l:List cA):Bool:=me none l&&decide (l.length≤10)
def oh (l:List eu):Bool:=nH none l&&decide (l.length≤4)
theorem zv (l:List cA) (hl:l.length≤1048576) (hn:∀e∈l,e.f0.size≤1048576):Ev (fun k=>eh.f k l) (pg l):=by
 have key:Ev (fun k=>eh.l0 k l (0:Nat)) (me (kd l 0) (l.drop 0)&&decide (l.length≤10)):=by
  refine down (n:=l.length) (P:=fun i=>Ev (fun k=>eh.l0 k l (i:Nat)) (me (kd l i) (l.drop i)&&decide (l.length≤10))) ?_ (fun i hi h=> ?_)
  ·rw[List.drop_length]
   apply ba
   simp only[eh.l0,me];refine dj (by omega) (eP (Ev.now _) ?_);simp;omega
  ·rw[List.drop_eq_getElem_cons hi];rw[qB l i hi]at h
   apply ba
   simp only[eh.l0];refine bn (by omega) ?_;have hname:=mw l[i].f0 (by have:=hn _ (List.getElem_mem hi);omega);have hrd:al l (i:Int)=l[i]:=getD_at l _ i hi;rw[hrd,nT i l.length hi (by omega)];simp only[me,py,Option.bind_some];refine bn (by omega) (Ev.bind hname ?_)
   by_cases c1:gn l[i].f0=true
   ·refine bn c1 ?_
    by_cases c2:2≤l[i].f1∧l[i].f1≤1000
    ·refine bn (by simp[c2]) ?_
     by_cases c3:i=0
     ·subst c3;refine dj (by omega) (eP h ?_);simp[c1,c2,kd,upTo]
     ·rw[ly (n:=(i:Int)-1) (by omega) (by omega)]
      have hu:upTo (kd l i) l[i].f0=Op.bytesLess (al l ((i:Int)-1)).f0.toList l[i].f0.toList:=by unfold kd;rw[if_neg c3];rfl
      refine bn (by omega) (bn (by omega) (bn (by omega) ?_))
      by_cases c4:Op.bytesLess (al l ((i:Int)-1)).f0.toList l[i].f0.toList=true
      ·refine bn c4 (eP h ?_);simp[c1,c2,hu,c4]
      ·refine dj c4 (eP (Ev.now _) ?_);simp[hu,c4]
    ·refine dj (by simp;omega) (eP (Ev.now _) ?_);have:decide (2≤l[i].f1∧l[i].f1≤1000)=false:=decide_eq_false c2;simp[this]
   ·refine dj c1 (eP (Ev.now _) ?_);simp[c1]
 simpa [eh.f,pg,kd]using key
theorem xJ (l:List eu) (hl:l.length≤1048576) (hn:∀e∈l,e.f0.size≤1048576):Ev (fun k=>dt.f k l) (oh l):=by
 have key:Ev (fun k=>dt.l0 k l (0:Nat)) (nH (iW l 0) (l.drop 0)&&decide (l.length≤4)):=by
  refine down (n:=l.length) (P:=fun i=>Ev (fun k=>dt.l0 k l (i:Nat)) (nH (iW l i) (l.drop i)&&decide (l.length≤4))) ?_ (fun i hi h=> ?_)
  ·rw[List.drop_length]
   apply ba
   simp only[dt.l0,nH];refine dj (by omega) (eP (Ev.now _) ?_);simp;omega
  ·rw[List.drop_eq_getElem_cons hi];rw[pO l i hi]at h
   apply ba
   simp only[dt.l0];refine bn (by omega) ?_;have hname:=mw l[i].f0 (by have:=hn _ (List.getElem_mem hi);omega);have hrd:aw l (i:Int)=l[i]:=getD_at l _ i hi;rw[hrd,nT i l.length hi (by omega)];simp only[nH,py,Option.bind_some];refine bn (by omega) (Ev.bind hname ?_)
   by_cases c1:gn l[i].f0=true
   ·refine bn c1 ?_
    by_cases c2:1≤l[i].f1.size∧l[i].f1.size≤16
    ·refine bn (by simp;omega) ?_
     by_cases c3:i=0
     ·subst c3;refine dj (by omega) (eP h ?_);simp[c1,c2,iW,upTo]
     ·rw[ly (n:=(i:Int)-1) (by omega) (by omega)]
      have hu:upTo (iW l i) l[i].f0=Op.bytesLess (aw l ((i:Int)-1)).f0.toList l[i].f0.toList:=by unfold iW;rw[if_neg c3];rfl
      refine bn (by omega) (bn (by omega) (bn (by omega) ?_))
      by_cases c4:Op.bytesLess (aw l ((i:Int)-1)).f0.toList l[i].f0.toList=true
      ·refine bn c4 (eP h ?_);simp[c1,c2,hu,c4]
      ·refine dj c4 (eP (Ev.now _) ?_);simp[hu,c4]
    ·refine dj (by simp;omega) (eP (Ev.now _) ?_);have:decide (1≤l[i].f1.size∧l[i].f1.size≤16)=false:=decide_eq_false c2;simp[this]
   ·refine dj c1 (eP (Ev.now _) ?_);simp[c1]
 simpa [dt.f,oh,iW]using key
theorem qC (a b c:Int):bw.f a b c=some (decide (b≤a∧a≤c)):=by
 unfold bw.f
 by_cases h:a≥b
 ·rw[if_pos h];simp[show b≤a from h]
 ·rw[if_neg h];simp[show¬b≤a from h]
theorem xK (l:List eu) (hl:l.length≤1048576) (hn:∀e∈l,e.f0.size≤1048576):Ev (fun k=>cZ.f k l) (oh l):=by
 have key:Ev (fun k=>cZ.l0 k l l (l.length:Int) (0:Nat)) (nH (iW l 0) (l.drop 0)&&decide (l.length≤4)):=by
  refine down (n:=l.length) (P:=fun i=>Ev (fun k=>cZ.l0 k l l (l.length:Int) (i:Nat)) (nH (iW l i) (l.drop i)&&decide (l.length≤4))) ?_ (fun i hi h=> ?_)
  ·rw[List.drop_length]
   apply ba
   simp only[cZ.l0,nH];refine dj (by omega) (eP (Ev.now _) ?_);simp;omega
  ·rw[List.drop_eq_getElem_cons hi];rw[pO l i hi]at h
   apply ba
   simp only[cZ.l0];refine bn (by omega) ?_;have hname:=qW l[i].f0 (by have:=hn _ (List.getElem_mem hi);omega);have hrd:aw l (i:Int)=l[i]:=getD_at l _ i hi;rw[hrd,nT i l.length hi (by omega)];simp only[nH,qC,Option.bind_some];refine bn (by omega) (bn (by omega) (Ev.bind hname ?_))
   by_cases c1:gn l[i].f0=true
   ·refine bn c1 ?_
    by_cases c2:1≤l[i].f1.size∧l[i].f1.size≤16
    ·refine bn (by simp;omega) ?_
     by_cases c3:i=0
     ·subst c3;refine dj (by omega) (eP h ?_);simp[c1,c2,iW,upTo]
     ·rw[ly (n:=(i:Int)-1) (by omega) (by omega)]
      have hu:upTo (iW l i) l[i].f0=Op.bytesLess (aw l ((i:Int)-1)).f0.toList l[i].f0.toList:=by unfold iW;rw[if_neg c3];rfl
      refine bn (by omega) (bn (by omega) (bn (by omega) ?_))
      by_cases c4:Op.bytesLess (aw l ((i:Int)-1)).f0.toList l[i].f0.toList=true
      ·refine bn c4 (eP h ?_);simp[c1,c2,hu,c4]
      ·refine dj c4 (eP (Ev.now _) ?_);simp[hu,c4]
    ·refine dj (by simp;omega) (eP (Ev.now _) ?_);have:decide (1≤l[i].f1.size∧l[i].f1.size≤16)=false:=decide_eq_false c2;simp[this]
   ·refine dj c1 (eP (Ev.now _) ?_);simp[c1]
 simpa [cZ.f,oh,iW]using key
def kindOk (b c:Int) (d:List Int) (e:List cA):Bool:=if b=1 then e.length==0 else if b=2 then d.length==0&&decide (c≤1)else false
def im (a b c:Int) (d:List Int) (e:List cA) (t:List eu):Bool:=
 decide (1≤a∧a≤1000)&&decide (0≤c∧c≤1000)&&((c==0)==(a==1))&&decide (d.length≤100)&&pg e&&oh t&&kindOk b c d e
theorem qX (b c:Int) (d:List Int) (e:List cA):(if b=1 then(some ((e.length:Int)==0))else(if b=2 then(if(d.length:Int)=0 then(some (decide (c≤1)))else(some false))else(some false)))=some (kindOk b c d e):=by
 unfold kindOk
 have h1:((e.length:Int)==0)=(e.length==0):=by rw[Bool.eq_iff_iff];simp only[beq_iff_eq];omega
 by_cases hb:b=1
 ·rw[if_pos hb,if_pos hb,h1]
 ·rw[if_neg hb,if_neg hb]
  by_cases hb2:b=2
  ·rw[if_pos hb2,if_pos hb2]
   by_cases hd:d.length=0
   ·rw[if_pos (by omega)];simp[hd]
   ·rw[if_neg (by omega)];simp[hd]
  ·rw[if_neg hb2,if_neg hb2]
theorem qY (x y:Bool):(x !=y)= !(x==y):=rfl
theorem uS (a b c:Int) (d:List Int) (e:List cA) (t:List eu) (he:e.length≤1048576) (ht:t.length≤1048576) (hen:∀x∈e,x.f0.size≤1048576) (htn:∀x∈t,x.f0.size≤1048576):
  Ev (fun k=>cK.f k a b c d e t) (im a b c d e t):=by
 unfold cK.f;simp only[py,Option.bind_some]
 have no:∀r:Bool,r=false→Ev (fun k=>cK.j0 k true a b c d e t) r:=by
  intro r hr
  try(apply ba;simp only[cK.j0,qX])
  exact bn (by simp) (eP (Ev.now _) hr.symm)
 by_cases c1:1≤a∧a≤1000
 ·refine bn (by simp[c1]) ?_
  by_cases c2:0≤c∧c≤1000
  ·refine bn (by simp[c2]) ?_
   by_cases c3:((c==0)==(a==1))=true
   ·refine dj (by rw[qY,c3];simp) ?_
    by_cases c4:d.length≤100
    ·refine dj (by omega) (Ev.bind (zv e he hen) ?_)
     by_cases c5:pg e=true
     ·refine bn c5 (Ev.bind (xJ t ht htn) ?_)
      try(apply ba;simp only[cK.j0,qX])
      by_cases c6:oh t=true
      ·refine dj (by simp[c6]) ?_;refine eP (Ev.now _) ?_;unfold im;simp only[c1,c2,c3,c4,c5,c6,and_self,decide_true,Bool.true_and]
      ·refine bn (by simp[c6]) (eP (Ev.now _) ?_);simp[im,c6]
     ·exact dj c5 (no _ (by simp[im,c5]))
    ·exact bn (by omega) (no _ (by simp[im,c4]))
   ·refine bn (by rw[qY];simpa using c3) (no _ ?_);unfold im;rw[Bool.not_eq_true]at c3;simp[c3]
  ·refine dj (by simp;omega) (no _ ?_);have:decide (0≤c∧c≤1000)=false:=decide_eq_false c2;simp[im,this]
 ·refine dj (by simp;omega) (no _ ?_);have:decide (1≤a∧a≤1000)=false:=decide_eq_false c1;simp[im,this]
theorem rN (a b c:Int) (d:List Int) (l:List cA) (t:List eu) (hl:l.length≤1048576) (hn:∀x∈l,x.f0.size≤1048576):
  Ev (fun k=>bm.l0 k l (l.length:Int) 0 a b c d l t) (me none l&&(decide (0≤c∧c≤1000)&&((c==0)==(a==1))&&kindOk b c d l)):=by
 generalize hE:(decide (0≤c∧c≤1000)&&((c==0)==(a==1))&&kindOk b c d l)=E
 have key:Ev (fun k=>bm.l0 k l (l.length:Int) (0:Nat) a b c d l t) (me (kd l 0) (l.drop 0)&&E):=by
  refine down (n:=l.length) (P:=fun i=>Ev (fun k=>bm.l0 k l (l.length:Int) (i:Nat) a b c d l t) (me (kd l i) (l.drop i)&&E)) ?_ (fun i hi h=> ?_)
  ·rw[List.drop_length]
   apply ba
   simp only[bm.l0,me,qC,Option.bind_some];refine dj (by omega) ?_
   have fin:∀x:Bool,(x= !(((c==0)==(a==1))&&decide (0≤c∧c≤1000)))→Ev (fun k=>bm.j2 k x a b c d l t) (true&&E):=by
    intro x hx
    try(apply ba;simp only[bm.j2,qX])
    by_cases cx:x=true
    ·refine bn cx (eP (Ev.now _) ?_);rw[cx]at hx
     have:(((c==0)==(a==1))&&decide (0≤c∧c≤1000))=false:=by
      cases hz:(((c==0)==(a==1))&&decide (0≤c∧c≤1000))with
      |false=>rfl
      |true=>rw[hz]at hx;exact absurd hx (by decide)
     rw[←hE,Bool.and_comm (decide _),this];simp
    ·refine dj cx ?_;refine eP (Ev.now _) ?_
     have:(((c==0)==(a==1))&&decide (0≤c∧c≤1000))=true:=by cases hz:(((c==0)==(a==1))&&decide (0≤c∧c≤1000))<;>simp_all
     rw[←hE,Bool.and_comm (decide _),this];simp
   by_cases c2:0≤c∧c≤1000
   ·exact bn (by simp[c2]) (fin _ (by rw[qY];simp[c2]))
   ·exact dj (by simp;omega) (fin _ (by have:decide (0≤c∧c≤1000)=false:=decide_eq_false c2;simp[this]))
  ·rw[List.drop_eq_getElem_cons hi];rw[qB l i hi]at h
   apply ba
   simp only[bm.l0];refine bn (by omega) ?_;have hname:=qW l[i].f0 (by have:=hn _ (List.getElem_mem hi);omega);have hrd:al l (i:Int)=l[i]:=getD_at l _ i hi;rw[hrd,nT i l.length hi (by omega)];simp only[me,qC,Option.bind_some];refine bn (by omega) (bn (by omega) (Ev.bind hname ?_))
   by_cases c1:gn l[i].f0=true
   ·refine bn c1 ?_
    by_cases c2:2≤l[i].f1∧l[i].f1≤1000
    ·refine bn (by simp[c2]) ?_
     by_cases c3:i=0
     ·subst c3;refine dj (by omega) (eP h ?_);simp[c1,c2,kd,upTo]
     ·rw[ly (n:=(i:Int)-1) (by omega) (by omega)]
      have hu:upTo (kd l i) l[i].f0=Op.bytesLess (al l ((i:Int)-1)).f0.toList l[i].f0.toList:=by unfold kd;rw[if_neg c3];rfl
      refine bn (by omega) (bn (by omega) (bn (by omega) ?_))
      by_cases c4:Op.bytesLess (al l ((i:Int)-1)).f0.toList l[i].f0.toList=true
      ·refine bn c4 (eP h ?_);simp[c1,c2,hu,c4]
      ·refine dj c4 (eP (Ev.now _) ?_);simp[hu,c4]
    ·refine dj (by simp;omega) (eP (Ev.now _) ?_);have:decide (2≤l[i].f1∧l[i].f1≤1000)=false:=decide_eq_false c2;simp[this]
   ·refine dj c1 (eP (Ev.now _) ?_);simp[c1]
 simpa [kd]using key
theorem uT (a b c:Int) (d:List Int) (e:List cA) (t:List eu) (he:e.length≤1048576) (ht:t.length≤1048576) (hen:∀x∈e,x.f0.size≤1048576) (htn:∀x∈t,x.f0.size≤1048576):
  Ev (fun k=>bm.f k a b c d e t) (im a b c d e t):=by
 unfold bm.f;simp only[qC,Option.bind_some]
 have no:∀r:Bool,r=false→Ev (fun k=>bm.j0 k true a b c d e t) r:=by
  intro r hr
  try(apply ba;simp only[bm.j0])
  exact bn (by simp) (eP (Ev.now _) hr.symm)
 by_cases c1:1≤a∧a≤1000
 ·refine bn (by simp[c1]) ?_
  by_cases c4:d.length≤100
  ·refine dj (by omega) ?_
   by_cases c5:e.length≤10
   ·refine dj (by omega) (Ev.bind (xK t ht htn) ?_)
    try(apply ba;simp only[bm.j0])
    by_cases c6:oh t=true
    ·refine dj (by simp[c6]) ?_;refine eP (rN a b c d e t he hen) ?_;unfold im pg;simp only[c1,c4,c5,c6,and_self,decide_true,Bool.true_and,Bool.and_true]
     cases me none e<;>cases decide (0≤c∧c≤1000)<;>cases ((c==0)==(a==1))<;>cases kindOk b c d e<;>rfl
    ·refine bn (by simp[c6]) (eP (Ev.now _) ?_);simp[im,c6]
   ·exact bn (by omega) (no _ (by simp[im,pg,c5]))
  ·exact bn (by omega) (no _ (by simp[im,c4]))
 ·refine dj (by simp;omega) (no _ ?_);have:decide (1≤a∧a≤1000)=false:=decide_eq_false c1;simp[im,this]
end Go.Proofs.YtlecajlnjmbilaaGreatDoor.Q
namespace Go.Proofs.YtlecajlnjmbilaaGreatDoor.Q
open Go.RowKit Go.Proofs.YtlecajlnjmbilaaGreatDoor.P Go.Proofs.ab.ar Go.Proofs.ab.aH Go.Proofs.ab.aN
def pC (x:aX):Bool:=im x.f0 x.f1 x.f2 x.f3 x.f4 x.f5
def above (p:Option Int) (n:Int):Bool:=match p with|none=>true|some q=>decide (q<n)
def kJ (nx:Int):Option Int→List aX→Bool
 |_,[]=>true
 |p,x::l=>pC x&&decide (x.f0<nx)&&above p x.f0&&kJ nx (some x.f0) l
def ke (l:List aX) (i:Nat):Option Int:=if i=0 then none else some (af l ((i:Int)-1)).f0
theorem qD (l:List aX) (i:Nat) (h:i<l.length):ke l (i+1)=some l[i].f0:=by
 unfold ke;rw[if_neg (by omega),show(((i+1:Nat):Int)-1)=(i:Int)from by omega,af,getD_at l _ i h]
structure qb (x:aX):Prop where
 d:x.f3.length≤1048576
 e:x.f4.length≤1048576
 t:x.f5.length≤1048576
 en:∀y∈x.f4,y.f0.size≤1048576
 tn:∀y∈x.f5,y.f0.size≤1048576
theorem sO (x:aX) (h:pC x=true):1≤x.f0:=by
 unfold pC im at h;simp only[Bool.and_eq_true,decide_eq_true_eq]at h
 omega
theorem xL (nx:Int) (l:List aX):∀(q:Int) (i:Nat),1≤q→kJ nx (some q) l=true→ct 1 l i= -1:=by
 induction l with
 |nil=>intros;rfl
 |cons x l ih=>
  intro q i hq h;simp only[kJ,above,Bool.and_eq_true,decide_eq_true_eq]at h;rw[ct,if_neg (by omega)];exact ih x.f0 (i+1) (by omega) h.2
theorem xM (nx:Int) (x:aX) (l:List aX) (h:kJ nx none (x::l)=true):ct 1 (x::l) 0=if x.f0=1 then 0 else-1:=by
 simp only[kJ,Bool.and_eq_true,decide_eq_true_eq]at h;rw[ct]
 split
 ·rfl
 ·exact xL nx l x.f0 1 (sO x h.1.1.1) h.2
def nj (l:List aX):Bool:=decide ((af l 0).f0=1)&&((af l 0).f1==2)
theorem tz (l:List aX) (nx:Int) (hl:l.length≤1048576) (hs:∀x∈l,qb x) (hp:0<l.length):
  Ev (fun k=>br.l0 k 0 l nx) (kJ nx none l&&nj l):=by
 have key:Ev (fun k=>br.l0 k (0:Nat) l nx) (kJ nx (ke l 0) (l.drop 0)&&nj l):=by
  refine down (n:=l.length) (P:=fun i=>Ev (fun k=>br.l0 k (i:Nat) l nx) (kJ nx (ke l i) (l.drop i)&&nj l)) ?_ (fun i hi h=> ?_)
  ·rw[List.drop_length]
   apply ba
   simp only[br.l0,kJ];refine dj (by omega) (bn (by omega) ?_)
   by_cases c:(af l 0).f0=1
   ·exact bn c (eP (Ev.now _) (by simp[nj,c]))
   ·exact dj c (eP (Ev.now _) (by simp[nj,c]))
  ·rw[List.drop_eq_getElem_cons hi];rw[qD l i hi]at h;have hT:=hs l[i] (List.getElem_mem hi);have ho:=uS l[i].f0 l[i].f1 l[i].f2 l[i].f3 l[i].f4 l[i].f5 hT.e hT.t hT.en hT.tn;have hrd:af l (i:Int)=l[i]:=getD_at l _ i hi
   apply ba
   simp only[br.l0,hrd];rw[nT i l.length hi (by omega)];refine bn (by omega) (bn (by omega) (Ev.bind ho ?_))
   by_cases c1:pC l[i]=true
   ·refine bn c1 ?_
    by_cases c2:l[i].f0<nx
    ·refine dj (by omega) ?_
     by_cases c3:i=0
     ·subst c3;refine dj (by omega) (eP h ?_);simp[kJ,c1,c2,ke,above]
     ·rw[ly (n:=(i:Int)-1) (by omega) (by omega)];refine bn (by omega) (bn (by omega) (bn (by omega) ?_))
      have hu:above (ke l i) l[i].f0=decide ((af l ((i:Int)-1)).f0<l[i].f0):=by unfold ke;rw[if_neg c3];rfl
      by_cases c4:(af l ((i:Int)-1)).f0<l[i].f0
      ·refine dj (by omega) (eP h ?_);simp[kJ,c1,c2,hu,c4]
      ·refine bn (by omega) (eP (Ev.now _) ?_);simp[kJ,hu,c4]
    ·refine bn (by omega) (eP (Ev.now _) ?_);simp[kJ,c2]
   ·refine dj c1 (eP (Ev.now _) ?_);simp[kJ,c1]
 simpa [ke]using key
theorem tA (l:List aX) (nx:Int) (hl:l.length≤1048576) (hs:∀x∈l,qb x) (E:Bool) (hE:Ev (fun k=>(cT.f k l nx 1).bind fun bt=>(if bt.2.2.2.2.2.2=true then(some (bt.2.1==2))else(some false))) E):
  Ev (fun k=>bs.l0 k l (l.length:Int) 0 l nx) (kJ nx none l&&E):=by
 have key:Ev (fun k=>bs.l0 k l (l.length:Int) (0:Nat) l nx) (kJ nx (ke l 0) (l.drop 0)&&E):=by
  refine down (n:=l.length) (P:=fun i=>Ev (fun k=>bs.l0 k l (l.length:Int) (i:Nat) l nx) (kJ nx (ke l i) (l.drop i)&&E)) ?_ (fun i hi h=> ?_)
  ·rw[List.drop_length]
   apply ba
   simp only[bs.l0,kJ];exact dj (by omega) (eP hE (by simp))
  ·rw[List.drop_eq_getElem_cons hi];rw[qD l i hi]at h;have hT:=hs l[i] (List.getElem_mem hi);have ho:=uT l[i].f0 l[i].f1 l[i].f2 l[i].f3 l[i].f4 l[i].f5 hT.e hT.t hT.en hT.tn;have hrd:af l (i:Int)=l[i]:=getD_at l _ i hi
   apply ba
   simp only[bs.l0,hrd];rw[nT i l.length hi (by omega)];refine bn (by omega) (bn (by omega) (bn (by omega) (Ev.bind ho ?_)))
   by_cases c1:pC l[i]=true
   ·refine bn c1 ?_
    by_cases c2:l[i].f0<nx
    ·refine dj (by omega) ?_
     by_cases c3:i=0
     ·subst c3;refine dj (by omega) (eP h ?_);simp[kJ,c1,c2,ke,above]
     ·rw[ly (n:=(i:Int)-1) (by omega) (by omega)];refine bn (by omega) (bn (by omega) (bn (by omega) ?_))
      have hu:above (ke l i) l[i].f0=decide ((af l ((i:Int)-1)).f0<l[i].f0):=by unfold ke;rw[if_neg c3];rfl
      by_cases c4:(af l ((i:Int)-1)).f0<l[i].f0
      ·refine dj (by omega) (eP h ?_);simp[kJ,c1,c2,hu,c4]
      ·refine bn (by omega) (eP (Ev.now _) ?_);simp[kJ,hu,c4]
    ·refine bn (by omega) (eP (Ev.now _) ?_);simp[kJ,c2]
   ·refine dj c1 (eP (Ev.now _) ?_);simp[kJ,c1]
 simpa [ke]using key
theorem xN (x:aX) (h:qb x):eK.f x.f0 x.f1 x.f2 x.f3 x.f4 x.f5=some (x.f0,x.f1,x.f2,x.f3,x.f4,x.f5):=by
 have hd:=h.d;have he:=h.e;have ht:=h.t
 have a:cD.f x.f3=some x.f3:=by unfold cD.f;simp;omega
 have b:cG.f x.f4=some x.f4:=by unfold cG.f;simp;omega
 have c:dd.f x.f5=some x.f5:=by unfold dd.f;simp;omega
 unfold eK.f;rw[a,Option.bind_some,b,Option.bind_some,c,Option.bind_some]
def nC (l:List aX) (nx:Int):Bool:=decide (1≤l.length∧l.length≤30)&&decide (2≤nx∧nx≤1000)&&(kJ nx none l&&nj l)
theorem uU (ino:Int) (l:List aX):∀i:Nat,ct ino l i= -1∨((i:Int)≤ct ino l i∧ct ino l i<i+l.length):=by
 induction l with
 |nil=>intro i;exact .inl rfl
 |cons x l ih=>
  intro i;rw[ct]
  split
  ·right;simp only[List.length_cons];omega
  ·rcases ih (i+1)with h|h
   ·exact .inl h
   ·right;simp only[List.length_cons];omega
def atOk (l:List aX):Bool:=if ct 1 l 0<0 then false else((af l (ct 1 l 0)).f1==2)
theorem at_one (l:List aX) (nx:Int) (hl:l.length≤1048576) (hs:∀x∈l,qb x):
  Ev (fun k=>(cT.f k l nx 1).bind fun bt=>(if bt.2.2.2.2.2.2=true then(some (bt.2.1==2))else(some false))) (atOk l):=by
 unfold cT.f eH.f atOk;rw[if_pos (by omega)];simp only[Option.bind_some]
 by_cases c:ct 1 l 0<0
 ·simp only[if_pos c,Option.bind_some];exact Ev.now _
 ·simp only[if_neg c];have hr:=uU 1 l 0;obtain⟨n,hn⟩:∃n:Nat,ct 1 l 0=n:=⟨(ct 1 l 0).toNat,by omega⟩;rw[hn]at hr c⊢
  have hlt:n<l.length:=by omega
  have hrd:af l (n:Int)=l[n]:=getD_at l _ n hlt;simp only[hrd,xN l[n] (hs _ (List.getElem_mem hlt)),Option.bind_some];rw[if_pos (by omega),if_pos (by omega)];simp only[Option.bind_some,if_true];exact Ev.now _
theorem acj (nx:Int) (l:List aX) (hp:0<l.length):(kJ nx none l&&atOk l)=(kJ nx none l&&nj l):=by
 cases h:kJ nx none l with
 |false=>rfl
 |true=>
  cases l with
  |nil=>simp at hp
  |cons x l=>
   have hh:=xM nx x l h;simp only[Bool.true_and,atOk,nj,hh];have h0:af (x::l) 0=x:=rfl
   by_cases c:x.f0=1
   ·simp[c,h0]
   ·simp[c,h0]
theorem xO (l:List aX) (nx:Int) (hl:l.length≤1048576) (hs:∀x∈l,qb x):Ev (fun k=>br.f k l nx) (nC l nx):=by
 unfold br.f nC;simp only[py,Option.bind_some]
 have no:∀r:Bool,r=false→Ev (fun k=>br.j0 k true l nx) r:=by
  intro r hr
  apply ba
  simp only[br.j0];exact bn (by simp) (eP (Ev.now _) hr.symm)
 by_cases c1:1≤l.length∧l.length≤30
 ·refine bn (by simp;omega) ?_
  by_cases c2:2≤nx∧nx≤1000
  ·apply ba
   simp only[br.j0];refine dj (by simp[c2]) (eP (tz l nx hl hs (by omega)) ?_);simp[c1,c2]
  ·rw[show decide (2≤nx∧nx≤1000)=false from decide_eq_false c2];exact no _ (by simp)
 ·refine dj (by simp;omega) (no _ ?_);rw[show decide (1≤l.length∧l.length≤30)=false from decide_eq_false c1]
  rfl
theorem xP (l:List aX) (nx:Int) (hl:l.length≤1048576) (hs:∀x∈l,qb x):Ev (fun k=>bs.f k l nx) (nC l nx):=by
 unfold bs.f nC;simp only[qC,Option.bind_some]
 have no:∀r:Bool,r=false→Ev (fun k=>bs.j0 k true l nx) r:=by
  intro r hr
  apply ba
  simp only[bs.j0];exact bn (by simp) (eP (Ev.now _) hr.symm)
 by_cases c1:l.length≤30
 ·refine dj (by omega) ?_
  by_cases c2:2≤nx∧nx≤1000
  ·apply ba
   simp only[bs.j0];refine dj (by simp[c2]) (eP (tA l nx hl hs _ (at_one l nx hl hs)) ?_)
   by_cases c0:1≤l.length
   ·rw[acj nx l c0];simp[c0,c1,c2]
   ·obtain rfl:l=[]:=List.eq_nil_of_length_eq_zero (by omega);simp[kJ,atOk,ct]
  ·rw[show decide (2≤nx∧nx≤1000)=false from decide_eq_false c2];exact no _ (by simp)
 ·refine bn (by omega) (no _ ?_);rw[show decide (1≤l.length∧l.length≤30)=false from decide_eq_false (by omega)]
  rfl
end Go.Proofs.YtlecajlnjmbilaaGreatDoor.Q
namespace Go.Proofs.YtlecajlnjmbilaaGreatDoor.Q
open Go.RowKit Go.Proofs.YtlecajlnjmbilaaGreatDoor.P Go.Proofs.ab.ar Go.Proofs.ab.aH Go.Proofs.ab.aN
def fS (n:Int) (e:List cA):Nat:=(e.filter fun x=>decide (x.f1=n)).length
def fT (n:Int) (x:aX):Nat:=if x.f1=2 then fS n x.f4 else 0
def eC (n:Int) (l:List aX):Nat:=(l.map (fT n)).sum
theorem pP (n:Int) (e:List cA) (j:Nat) (hj:j<e.length):fS n (e.drop j)=(if e[j].f1=n then 1 else 0)+fS n (e.drop (j+1)):=by
 unfold fS;rw[List.drop_eq_getElem_cons hj,List.filter_cons]
 by_cases h:e[j].f1=n
 ·rw[if_pos (by simpa using h),if_pos h,List.length_cons];omega
 ·rw[if_neg (by simpa using h),if_neg h];omega
theorem qE (n:Int) (l:List aX) (j:Nat) (hj:j<l.length):eC n (l.drop j)=fT n l[j]+eC n (l.drop (j+1)):=by
 unfold eC;rw[List.drop_eq_getElem_cons hj,List.map_cons,List.sum_cons]
theorem xQ (L:List aX) (nx n:Int) (hl:L.length≤1048576) (hs:∀x∈L,x.f4.length≤1048576) (hu:eC n L≤4611686018427387904):Ev (fun k=>bl.f k L nx n) (eC n L:Int):=by
 have key:∀acc:Nat,acc+eC n (L.drop 0)≤4611686018427387904→Ev (fun k=>bl.l0 k n (acc:Int) (0:Nat) L nx) ((acc+eC n (L.drop 0):Nat):Int):=by
  refine down (n:=L.length) (P:=fun i=>∀acc:Nat,acc+eC n (L.drop i)≤4611686018427387904→Ev (fun k=>bl.l0 k n (acc:Int) (i:Nat) L nx) ((acc+eC n (L.drop i):Nat):Int)) ?_ (fun i hi ih=> ?_)
  ·intro acc _;rw[List.drop_length]
   apply ba
   simp only[bl.l0];exact dj (by omega) (eP (Ev.now _) (by simp[eC]))
  ·intro acc hb;rw[qE n L i hi]at hb⊢;have hx:=hs _ (List.getElem_mem hi);have ih:=ih (acc+fT n L[i]) (by omega);rw[←nT i L.length hi (by omega)]at ih;have ih:Ev (fun k=>bl.l0 k n ((acc+fT n L[i]:Nat):Int) (wrap64 ((i:Int)+1)) L nx) ((acc+(fT n L[i]+eC n (L.drop (i+1))):Nat):Int):=eP ih (by omega);generalize ((acc+(fT n L[i]+eC n (L.drop (i+1))):Nat):Int)=R at ih⊢
   apply ba
   simp only[bl.l0];refine bn (by omega) ?_;have hrd:af L (i:Int)=L[i]:=getD_at L _ i hi
   have go:∀acc j,Ev (fun k=>bl.l0 k n acc (wrap64 ((i:Int)+1)) L nx) R→Ev (fun k=>bl.j2 k n acc i j false L nx) R:=by
    intro acc j h
    apply ba
    simp only[bl.j2];exact dj (by simp) h
   by_cases hk:L[i].f1=2
   ·unfold fT at ih hb;rw[if_pos hk]at ih hb
    have inner:∀acc:Nat,acc+fS n (L[i].f4.drop 0)≤4611686018427387904→Ev (fun k=>bl.l0 k n ((acc+fS n (L[i].f4.drop 0):Nat):Int) (wrap64 ((i:Int)+1)) L nx) R→Ev (fun k=>bl.l1 k n (acc:Int) i (0:Nat) L nx) R:=by
     refine down (n:=L[i].f4.length) (P:=fun j=>∀acc:Nat,acc+fS n (L[i].f4.drop j)≤4611686018427387904→Ev (fun k=>bl.l0 k n ((acc+fS n (L[i].f4.drop j):Nat):Int) (wrap64 ((i:Int)+1)) L nx) R→Ev (fun k=>bl.l1 k n (acc:Int) i (j:Nat) L nx) R) ?_ (fun j hj ihj=> ?_)
     ·intro acc _ h;rw[List.drop_length]at h
      apply ba
      simp only[bl.l1,hrd];exact bn (by omega) (bn (by omega) (dj (by omega) (go _ _ (by simpa [fS]using h))))
     ·intro acc hb h;rw[pP n _ j hj]at hb h
      apply ba
      simp only[bl.l1,hrd];refine bn (by omega) (bn (by omega) (bn (by omega) ?_))
      apply ba
      simp only[bl.j2,hrd];have hrj:al L[i].f4 (j:Int)=L[i].f4[j]:=getD_at L[i].f4 _ j hj;refine bn (by simp[hk]) (bn (by omega) (bn (by omega) (bn (by omega) (bn (by omega) ?_))));rw[hrj,nT j L[i].f4.length hj (by omega)]
      by_cases he:L[i].f4[j].f1=n
      ·rw[if_pos he]at hb h;refine bn he ?_;rw[ly (n:=(acc:Int)+1) (by omega) (by omega)];have:=ihj (acc+1) (by omega) (by rw[show acc+1+fS n (L[i].f4.drop (j+1))=acc+(1+fS n (L[i].f4.drop (j+1)))from by omega];exact h)
       simpa using this
      ·rw[if_neg he]at hb h;refine dj he (ihj acc (by omega) ?_)
       simpa using h
    exact inner acc (by simp only[List.drop_zero];omega) (by simpa using ih)
   ·unfold fT at ih;rw[if_neg hk]at ih
    apply ba
    simp only[bl.l1,hrd];refine bn (by omega) (bn (by omega) (wa (fun _=> ?_) (fun _=>go _ _ (by simpa using ih))));rw[show(L[i].f1==2)=false from by simp[hk]];exact go _ _ (by simpa using ih)
 have:=key 0 (by simpa using hu)
 simpa [bl.f]using this
theorem xR (L:List aX) (nx n:Int) (hl:L.length≤1048576) (hs:∀x∈L,x.f4.length≤1048576) (hu:eC n L≤4611686018427387904):Ev (fun k=>cd.f k L nx n) (eC n L:Int):=by
 have key:∀acc:Nat,acc+eC n (L.drop 0)≤4611686018427387904→Ev (fun k=>cd.l0 k n (acc:Int) L (L.length:Int) (0:Nat)) ((acc+eC n (L.drop 0):Nat):Int):=by
  refine down (n:=L.length) (P:=fun i=>∀acc:Nat,acc+eC n (L.drop i)≤4611686018427387904→Ev (fun k=>cd.l0 k n (acc:Int) L (L.length:Int) (i:Nat)) ((acc+eC n (L.drop i):Nat):Int)) ?_ (fun i hi ih=> ?_)
  ·intro acc _;rw[List.drop_length]
   apply ba
   simp only[cd.l0];exact dj (by omega) (eP (Ev.now _) (by simp[eC]))
  ·intro acc hb;rw[qE n L i hi]at hb⊢;have hx:=hs _ (List.getElem_mem hi);have ih:=ih (acc+fT n L[i]) (by omega);rw[←nT i L.length hi (by omega)]at ih;have ih:Ev (fun k=>cd.l0 k n ((acc+fT n L[i]:Nat):Int) L (L.length:Int) (wrap64 ((i:Int)+1))) ((acc+(fT n L[i]+eC n (L.drop (i+1))):Nat):Int):=eP ih (by omega);generalize ((acc+(fT n L[i]+eC n (L.drop (i+1))):Nat):Int)=R at ih⊢
   apply ba
   have hrd:af L (i:Int)=L[i]:=getD_at L _ i hi;simp only[cd.l0,hrd];refine bn (by omega) ?_;refine bn (by omega) (bn (by omega) ?_)
   by_cases hk:L[i].f1=2
   ·unfold fT at ih hb;rw[if_pos hk]at ih hb;refine bn hk ?_
    have inner:∀acc:Nat,acc+fS n (L[i].f4.drop 0)≤4611686018427387904→Ev (fun k=>cd.l0 k n ((acc+fS n (L[i].f4.drop 0):Nat):Int) L (L.length:Int) (wrap64 ((i:Int)+1))) R→Ev (fun k=>cd.l1 k n (acc:Int) L (L.length:Int) i L[i].f4 (L[i].f4.length:Int) (0:Nat)) R:=by
     refine down (n:=L[i].f4.length) (P:=fun j=>∀acc:Nat,acc+fS n (L[i].f4.drop j)≤4611686018427387904→Ev (fun k=>cd.l0 k n ((acc+fS n (L[i].f4.drop j):Nat):Int) L (L.length:Int) (wrap64 ((i:Int)+1))) R→Ev (fun k=>cd.l1 k n (acc:Int) L (L.length:Int) i L[i].f4 (L[i].f4.length:Int) (j:Nat)) R) ?_ (fun j hj ihj=> ?_)
     ·intro acc _ h;rw[List.drop_length]at h
      apply ba
      simp only[cd.l1];exact dj (by omega) (by simpa [fS]using h)
     ·intro acc hb h;rw[pP n _ j hj]at hb h
      apply ba
      simp only[cd.l1];have hrj:al L[i].f4 (j:Int)=L[i].f4[j]:=getD_at L[i].f4 _ j hj;refine bn (by omega) (bn (by omega) (bn (by omega) ?_));rw[hrj,nT j L[i].f4.length hj (by omega)]
      by_cases he:L[i].f4[j].f1=n
      ·rw[if_pos he]at hb h;refine bn he ?_;rw[ly (n:=(acc:Int)+1) (by omega) (by omega)];have:=ihj (acc+1) (by omega) (by rw[show acc+1+fS n (L[i].f4.drop (j+1))=acc+(1+fS n (L[i].f4.drop (j+1)))from by omega];exact h)
       simpa using this
      ·rw[if_neg he]at hb h;refine dj he (ihj acc (by omega) ?_)
       simpa using h
    exact inner acc (by simp only[List.drop_zero];omega) (by simpa using ih)
   ·unfold fT at ih;rw[if_neg hk]at ih;exact dj hk (by simpa using ih)
 have:=key 0 (by simpa using hu)
 simpa [cd.f]using this
end Go.Proofs.YtlecajlnjmbilaaGreatDoor.Q
namespace Go.Proofs.YtlecajlnjmbilaaGreatDoor.Q
open Go.RowKit Go.Proofs.YtlecajlnjmbilaaGreatDoor.P Go.Proofs.ab.ar Go.Proofs.ab.aH Go.Proofs.ab.aN
theorem wj (l:List Int):(strOfNums l).size=l.length:=by
 simp[strOfNums,ByteArray.size]
theorem xS (m:Nat):∀(n:Int) (s:ByteArray),0≤n→n≤9223372036854775807→n<10^m→s.size+m≤1000→∃r,Ev (fun k=>bg.l0 k n s) r:=by
 induction m with
 |zero=>
  intro n s h0 _ h1 hs;refine⟨(⟨#[109]⟩:ByteArray)++s,ba ?_⟩;simp only[bg.l0];exact dj (by omega) (bn (by omega) (Ev.now _))
 |succ m ih=>
  intro n s h0 hM h1 hs
  by_cases hn:n>0
  ·have hd:wrap64 (Int.tdiv n 10)=n/10:=by rw[Int.tdiv_eq_ediv_of_nonneg h0];exact ly (by omega) (by omega)
   obtain⟨r,hr⟩:=ih (n/10) ((strOfNums [wrap64 (48+Int.tmod n 10)%256])++s) (by omega) (by omega) (by rw[Int.pow_succ]at h1;omega) (by rw[ByteArray.size_append,wj];simp;omega);refine⟨r,ba ?_⟩;simp only[bg.l0,Option.bind_some,hd];exact bn hn (bn (by rw[wj];simp;omega) hr)
  ·refine⟨(⟨#[109]⟩:ByteArray)++s,ba ?_⟩;simp only[bg.l0];exact dj hn (bn (by omega) (Ev.now _))
theorem abh (n:Int) (h0:1≤n) (h1:n≤9223372036854775807):∃r,Ev (fun k=>bg.f k n) r:=by
 obtain⟨r,h⟩:=xS 19 n ⟨#[]⟩ (by omega) h1 (by omega) (by decide);exact⟨r,by unfold bg.f;exact dj (by omega) h⟩
theorem rA {α:Type}(y:List α) (i:Nat) (v:α) (h:i<y.length):(y.set i v).take (i+1)=y.take i++[v]:=by
 rw[List.take_succ_eq_append_getElem (by simpa using h),List.getElem_set_self,List.take_set_of_le (Nat.le_refl i)]
def tR:Int→List cA→Prop
 |_,[]=>True
 |a,x::l=>Ev (fun k=>bg.f k a) x.f0∧x.f1=a+1∧tR (a+2) l
def tS:Int→List eu→Prop
 |_,[]=>True
 |a,x::l=>Ev (fun k=>bg.f k a) x.f0∧Ev (fun k=>bg.f k (a+1)) x.f1∧tS (a+2) l
theorem abi (l:List cA):∀(a:Int) (i:Nat) (h:i<l.length),tR a l→Ev (fun k=>bg.f k (a+2*i)) l[i].f0∧l[i].f1=a+2*i+1:=by
 induction l with
 |nil=>intro a i h;simp at h
 |cons x l ih=>
  intro a i h hh
  cases i with
  |zero=>exact⟨by simpa using hh.1,by simpa using hh.2.1⟩
  |succ i=>
   obtain⟨h1,h2⟩:=ih (a+2) i (by simpa using h) hh.2.2;rw[show a+2+2*(i:Int)=a+2*((i+1:Nat):Int)from by omega]at h1 h2;exact⟨h1,h2⟩
theorem abj (l:List eu):∀(a:Int) (i:Nat) (h:i<l.length),tS a l→Ev (fun k=>bg.f k (a+2*i)) l[i].f0∧Ev (fun k=>bg.f k (a+2*i+1)) l[i].f1:=by
 induction l with
 |nil=>intro a i h;simp at h
 |cons x l ih=>
  intro a i h hh
  cases i with
  |zero=>exact⟨by simpa using hh.1,by simpa using hh.2.1⟩
  |succ i=>
   obtain⟨h1,h2⟩:=ih (a+2) i (by simpa using h) hh.2.2;rw[show a+2+2*(i:Int)=a+2*((i+1:Nat):Int)from by omega]at h1 h2;exact⟨h1,h2⟩
theorem abk (l:List cA) (a:Int) (h0:1≤a) (h1:a+2*l.length≤4611686018427387904) (hh:tR a l):Ev (fun k=>b_.f k l a) (a+2*l.length):=by
 have key:=down (n:=l.length) (P:=fun i=>Ev (fun k=>b_.l0 k l (a+2*i) (i:Nat)) (a+2*l.length)) (by
   apply ba
   simp only[b_.l0]
   exact dj (by omega) (Ev.now _)) (fun i hi h=>by
   obtain⟨g1,g2⟩:=abi l a i hi hh;have hrd:al l (i:Int)=l[i]:=getD_at l _ i hi
   apply ba
   simp only[b_.l0,hrd];rw[ly (n:=a+2*(i:Int)+1) (by omega) (by omega),ly (n:=a+2*(i:Int)+1+1) (by omega) (by omega),nT i l.length hi (by omega)];refine bn (by omega) (bn (by omega) (Ev.bind g1 (bn rfl (bn g2 ?_))));rw[show a+2*(i:Int)+1+1=a+2*((i+1:Nat):Int)from by omega]
   exact h)
 simpa [b_.f]using key
theorem zw (l:List eu) (a:Int) (h0:1≤a) (h1:a+2*l.length≤4611686018427387904) (hh:tS a l):Ev (fun k=>aW.f k l a) (a+2*l.length):=by
 have key:=down (n:=l.length) (P:=fun i=>Ev (fun k=>aW.l0 k l (a+2*i) (i:Nat)) (a+2*l.length)) (by
   apply ba
   simp only[aW.l0]
   exact dj (by omega) (Ev.now _)) (fun i hi h=>by
   obtain⟨g1,g2⟩:=abj l a i hi hh;have hrd:aw l (i:Int)=l[i]:=getD_at l _ i hi
   apply ba
   simp only[aW.l0,hrd];rw[ly (n:=a+2*(i:Int)+1) (by omega) (by omega),ly (n:=a+2*(i:Int)+1+1) (by omega) (by omega),nT i l.length hi (by omega)];refine bn (by omega) (bn (by omega) (Ev.bind g1 (bn rfl (Ev.bind g2 (bn rfl ?_)))));rw[show a+2*(i:Int)+1+1=a+2*((i+1:Nat):Int)from by omega]
   exact h)
 simpa [aW.f]using key
theorem abl (l:List cA) (x:Int) (h0:1≤x) (h1:x+2*l.length≤4611686018427387904):∃r,Ev (fun k=>de.f k l x) (x+2*l.length,r)∧r.length=l.length∧tR x r:=by
 have key:=down (n:=l.length) (P:=fun i=>∀y:List cA,y.length=l.length→∃r,Ev (fun k=>de.l0 k y (x+2*i) (i:Nat)) (x+2*l.length,y.take i++r)∧i+r.length=l.length∧tR (x+2*i) r) (by
   intro y hy;refine⟨[],ba ?_,by simp,trivial⟩;simp only[de.l0];refine dj (by omega) (eP (Ev.now _) ?_)
   rw[←hy,List.take_length,List.append_nil]) (by
   intro i hi h y hy;obtain⟨s,hs⟩:=abh (x+2*i) (by omega) (by omega);obtain⟨r,hr,hl,hh⟩:=h (((y.set i (⟨s,(al y (i:Nat)).f1⟩:cA)).set i (⟨(al (y.set i (⟨s,(al y (i:Nat)).f1⟩:cA)) (i:Nat)).f0,x+2*i+1⟩:cA))) (by simp[hy])
   have e0:(al (y.set i (⟨s,(al y (i:Nat)).f1⟩:cA)) (i:Nat)).f0=s:=by rw[al,getD_at _ _ i (by simpa using(by omega:i<y.length)),List.getElem_set_self]
   have e1:=e0;refine⟨⟨s,x+2*i+1⟩::r,ba ?_,by simp;omega,hs,rfl,by rw[show x+2*(i:Int)+2=x+2*((i+1:Nat):Int)from by omega];exact hh⟩;simp only[de.l0,Option.bind_some];refine bn (by omega) (Ev.bind hs (bn (by omega) ?_));rw[ly (n:=x+2*(i:Int)+1) (by omega) (by omega),ly (n:=x+2*(i:Int)+1+1) (by omega) (by omega),nT i l.length hi (by omega),show x+2*(i:Int)+1+1=x+2*((i+1:Nat):Int)from by omega];refine eP hr ?_;rw[e1,rA _ _ _ (by simp;omega),List.take_set_of_le (Nat.le_refl i),List.append_assoc]
   rfl)
 obtain⟨r,hr,hl,hh⟩:=key l rfl;exact⟨r,by simpa [de.f]using hr,by omega,by simpa using hh⟩
theorem zx (l:List eu) (x:Int) (h0:1≤x) (h1:x+2*l.length≤4611686018427387904):∃r,Ev (fun k=>cW.f k l x) (x+2*l.length,r)∧r.length=l.length∧tS x r:=by
 have key:=down (n:=l.length) (P:=fun i=>∀y:List eu,y.length=l.length→∃r,Ev (fun k=>cW.l0 k y (x+2*i) (i:Nat)) (x+2*l.length,y.take i++r)∧i+r.length=l.length∧tS (x+2*i) r) (by
   intro y hy;refine⟨[],ba ?_,by simp,trivial⟩;simp only[cW.l0];refine dj (by omega) (eP (Ev.now _) ?_)
   rw[←hy,List.take_length,List.append_nil]) (by
   intro i hi h y hy;obtain⟨s,hs⟩:=abh (x+2*i) (by omega) (by omega);obtain⟨s2,hs2⟩:=abh (x+2*i+1) (by omega) (by omega);obtain⟨r,hr,hl,hh⟩:=h (((y.set i (⟨s,(aw y (i:Nat)).f1⟩:eu)).set i (⟨(aw (y.set i (⟨s,(aw y (i:Nat)).f1⟩:eu)) (i:Nat)).f0,s2⟩:eu))) (by simp[hy])
   have e1:(aw (y.set i (⟨s,(aw y (i:Nat)).f1⟩:eu)) (i:Nat)).f0=s:=by rw[aw,getD_at _ _ i (by simpa using(by omega:i<y.length)),List.getElem_set_self]
   refine⟨⟨s,s2⟩::r,ba ?_,by simp;omega,hs,hs2,by rw[show x+2*(i:Int)+2=x+2*((i+1:Nat):Int)from by omega];exact hh⟩;simp only[cW.l0,Option.bind_some];rw[ly (n:=x+2*(i:Int)+1) (by omega) (by omega),ly (n:=x+2*(i:Int)+1+1) (by omega) (by omega),nT i l.length hi (by omega),show x+2*(i:Int)+1+1=x+2*((i+1:Nat):Int)from by omega];refine bn (by omega) (Ev.bind hs (bn (by omega) (Ev.bind hs2 (eP hr ?_))));rw[e1,rA _ _ _ (by simp;omega),List.take_set_of_le (Nat.le_refl i),List.append_assoc]
   rfl)
 obtain⟨r,hr,hl,hh⟩:=key l rfl;exact⟨r,by simpa [cW.f]using hr,by omega,by simpa using hh⟩
def acB (a:Int) (d:List Int) (e:List cA) (t:List eu):Prop:=d=marks d.length a∧tR (a+d.length) e∧tS (a+d.length+2*e.length) t
def inW (d:List Int) (e:List cA) (t:List eu):Nat:=d.length+2*e.length+2*t.length
end Go.Proofs.YtlecajlnjmbilaaGreatDoor.Q
namespace Go.Proofs.YtlecajlnjmbilaaGreatDoor.Q
open Go.RowKit Go.Proofs.YtlecajlnjmbilaaGreatDoor.P Go.Proofs.ab.ar Go.Proofs.ab.aH Go.Proofs.ab.aN
def nq (x:aX):Nat:=3+inW x.f3 x.f4 x.f5
def cX (l:List aX):Nat:=(l.map nq).sum
def tT:Int→List aX→Prop
 |_,[]=>True
 |a,x::l=>(x.f0=a∧x.f1=a+1∧x.f2=a+2∧acB (a+3) x.f3 x.f4 x.f5)∧tT (a+nq x) l
theorem abm (l:List aX):∀(x:Int),1≤x→x+cX l≤4611686018427387904→∃r,Ev (fun k=>rm k l x) (x+cX l,r)∧r.length=l.length∧cX r=cX l∧tT x r:=by
 induction l with
 |nil=>intro x _ _;exact⟨[],eP (Ev.now _) (by simp[cX]),rfl,rfl,trivial⟩
 |cons y l ih=>
  intro x h0 h1
  have hw:cX (y::l)=nq y+cX l:=by simp[cX]
  rw[hw]at h1⊢;obtain⟨r,hr,hl,hW,hh⟩:=ih (x+nq y) (by omega) (by omega);have hy:nq y=3+(y.f3.length+2*y.f4.length+2*y.f5.length):=rfl;have g1:=uN y.f3 (x+1+1+1) (by omega) (by omega);obtain⟨e',g2,l2,v2⟩:=abl y.f4 (x+1+1+1+y.f3.length) (by omega) (by omega);obtain⟨t',g3,l3,v3⟩:=zx y.f5 (x+1+1+1+y.f3.length+2*y.f4.length) (by omega) (by omega)
  have hz:nq ⟨x,x+1,x+1+1,marks y.f3.length (x+1+1+1),e',t'⟩=nq y:=by
   simp only[nq,inW,gv,l2,l3]
  refine⟨⟨x,x+1,x+1+1,marks y.f3.length (x+1+1+1),e',t'⟩::r,?_,by simp[hl],by simp only[cX,List.map_cons,List.sum_cons,hz]at hW⊢;omega,⟨rfl,rfl,by dsimp only;omega,?_⟩,by rw[hz];exact hh⟩
  ·simp only[rm,uG];rw[ly (n:=x+1) (by omega) (by omega),ly (n:=x+1+1) (by omega) (by omega),ly (n:=x+1+1+1) (by omega) (by omega)];refine Ev.bind (Ev.bind g1 (Ev.bind g2 (Ev.bind g3 (Ev.now _)))) ?_;rw[show x+1+1+1+(y.f3.length:Int)+2*y.f4.length+2*y.f5.length=x+nq y from by omega];refine Ev.bind hr (eP (Ev.now _) ?_);rw[show x+((nq y+cX l:Nat):Int)=x+nq y+cX l from by omega]
  ·rw[show x+1+1+1=x+3 from by omega]at v2 v3⊢;exact⟨by rw[gv],by rw[gv];exact v2,by rw[gv,l2];exact v3⟩
theorem tU (l:List aX) (x:Int) (hl:l.length≤1048577) (h0:1≤x) (h1:x+cX l≤4611686018427387904):∃r,Ev (fun k=>eI.f k l x) (x+cX l,r)∧r.length=l.length∧cX r=cX l∧tT x r:=by
 obtain⟨r,hr,z⟩:=abm l x h0 h1;exact⟨r,by unfold eI.f;exact bn (by omega) hr,z⟩
theorem abn (l:List aX) (x:Int) (hl:l.length≤1048576) (h0:1≤x) (h1:x+cX l≤4611686018427387904):∃r,Ev (fun k=>eI.f k l x) (x+cX l,r)∧r.length=l.length∧cX r=cX l∧tT x r:=tU l x (by omega) h0 h1
theorem abo (l:List aX):∀(a:Int) (i:Nat) (h:i<l.length),tT a l→(l[i].f0=a+cX (l.take i)∧l[i].f1=a+cX (l.take i)+1∧l[i].f2=a+cX (l.take i)+2∧acB (a+cX (l.take i)+3) l[i].f3 l[i].f4 l[i].f5):=by
 induction l with
 |nil=>intro a i h;simp at h
 |cons x l ih=>
  intro a i h hh
  cases i with
  |zero=>simpa [cX]using hh.1
  |succ i=>
   have:=ih (a+nq x) i (by simpa using h) hh.2;rw[show a+(nq x:Int)+cX (l.take i)=a+cX ((x::l).take (i+1))from by simp[cX];omega]at this;exact this
theorem xT (l:List aX) (i:Nat) (h:i<l.length):cX (l.take (i+1))=cX (l.take i)+nq l[i]:=by
 unfold cX;rw[List.take_succ_eq_append_getElem h,List.map_append,List.sum_append];simp
theorem abp (l:List aX) (i:Nat):cX (l.take i)≤cX l:=by
 have h:cX l=cX (l.take i)+cX (l.drop i):=by unfold cX;rw[←List.sum_append,←List.map_append,List.take_append_drop]
 omega
end Go.Proofs.YtlecajlnjmbilaaGreatDoor.Q
namespace Go.Proofs.YtlecajlnjmbilaaGreatDoor.Q
open Go.RowKit Go.Proofs.YtlecajlnjmbilaaGreatDoor.P Go.Proofs.ab.ar Go.Proofs.ab.aH Go.Proofs.ab.aN
theorem zy (l:List aX) (nx x:Int) (hl:l.length≤1048577) (h0:1≤x) (h1:x+cX l≤4611686018427387904) (hh:tT x l):Ev (fun k=>fz.f k l nx x) (x+cX l):=by
 have key:=down (n:=l.length) (P:=fun i=>Ev (fun k=>aA.l0 k l (x+cX (l.take i)) (i:Nat)) (x+cX l)) (by
   apply ba
   simp only[aA.l0,List.take_length]
   exact dj (by omega) (Ev.now _)) (fun i hi h=>by
   obtain⟨g0,g1,g2,hd,he,ht⟩:=abo l x i hi hh;have hrd:af l (i:Int)=l[i]:=getD_at l _ i hi;have hw:=xT l i hi;have hle:=abp l (i+1);have hy:nq l[i]=3+(l[i].f3.length+2*l[i].f4.length+2*l[i].f5.length):=rfl;generalize hA:x+(cX (l.take i):Int)=A at g0 g1 g2 hd he ht;have b1:=uO l[i].f3.length (A+3) (by omega) (by omega);rw[←hd]at b1;have b2:=abk l[i].f4 (A+3+l[i].f3.length) (by omega) (by omega) he;have b3:=zw l[i].f5 (A+3+l[i].f3.length+2*l[i].f4.length) (by omega) (by omega) ht
   apply ba
   simp only[aA.l0];refine bn (by omega) ?_
   apply ba
   simp only[aA.j1,hrd];refine bn (by omega) (bn (by omega) (bn g0 ?_))
   apply ba
   simp only[aA.j2,hrd];rw[ly (n:=A+1) (by omega) (by omega)];refine bn (by omega) (bn (by omega) (bn g1 ?_))
   apply ba
   simp only[aA.j3,hrd];rw[ly (n:=A+1+1) (by omega) (by omega)];refine bn (by omega) (bn (by omega) (bn (by omega) ?_))
   apply ba
   simp only[aA.j4,hrd];rw[ly (n:=A+1+1+1) (by omega) (by omega),show A+1+1+1=A+3 from by omega];refine bn (by omega) (bn (by omega) (Ev.bind b1 (dj (by omega) ?_)))
   apply ba
   simp only[aA.j5,hrd];refine bn (by omega) (bn (by omega) (Ev.bind b2 (dj (by omega) (Ev.bind b3 (dj (by omega) ?_)))));rw[nT i l.length hi (by omega)];rw[show A+3+(l[i].f3.length:Int)+2*l[i].f4.length+2*l[i].f5.length=x+cX (l.take (i+1))from by omega]
   exact h)
 unfold fz.f aA.f;refine Ev.bind (a:=x+cX l) ?_ (dj (by omega) (Ev.now _))
 simpa [cX]using key
end Go.Proofs.YtlecajlnjmbilaaGreatDoor.Q
namespace Go.Proofs.YtlecajlnjmbilaaGreatDoor.Q
open Go.RowKit Go.Proofs.YtlecajlnjmbilaaGreatDoor.P Go.Proofs.ab.ar Go.Proofs.ab.aH Go.Proofs.ab.aN
structure gu (x:aX):Prop where
 d:x.f3.length≤1048576
 e:x.f4.length≤1048576
 t:x.f5.length≤1048576
theorem sP (x:aX) (h:gu x):eK.f x.f0 x.f1 x.f2 x.f3 x.f4 x.f5=some (x.f0,x.f1,x.f2,x.f3,x.f4,x.f5):=by
 have hd:=h.d;have he:=h.e;have ht:=h.t
 have a:cD.f x.f3=some x.f3:=by unfold cD.f;simp;omega
 have b:cG.f x.f4=some x.f4:=by unfold cG.f;simp;omega
 have c:dd.f x.f5=some x.f5:=by unfold dd.f;simp;omega
 unfold eK.f;rw[a,Option.bind_some,b,Option.bind_some,c,Option.bind_some]
end Go.Proofs.YtlecajlnjmbilaaGreatDoor.Q
namespace Go.Proofs.YtlecajlnjmbilaaGreatDoor.Q
open Go.RowKit Go.Proofs.YtlecajlnjmbilaaGreatDoor.P Go.Proofs.ab.ar Go.Proofs.ab.aH Go.Proofs.ab.aN
theorem qF (x:aX) (h:gu x):dv.f x.f0 x.f1 x.f2 x.f3 x.f4 x.f5=some (x.f0,x.f1,x.f2,x.f3,x.f4,x.f5):=by
 have hd:=h.d;have he:=h.e;have ht:=h.t;unfold dv.f;simp only[Option.bind_some,List.length_nil,List.nil_append];rw[if_pos (by omega),if_pos (by omega),if_pos (by omega)]
end Go.Proofs.YtlecajlnjmbilaaGreatDoor.Q
namespace Go.Proofs.YtlecajlnjmbilaaGreatDoor.Q
open Go.RowKit Go.Proofs.YtlecajlnjmbilaaGreatDoor.P Go.Proofs.ab.ar Go.Proofs.ab.aH Go.Proofs.ab.aN
theorem abb (l:List nL):cX (l.map ks)≤3*rz l:=by
 unfold cX rz
 induction l with
 |nil=>simp
 |cons x l ih=>
  simp only[List.map_cons,List.sum_cons,List.length_cons]
  have:nq (ks x)≤3+3*qA x:=by
   unfold nq inW qA qz ks;simp only[List.length_map]
   omega
  omega
theorem uV (p:aX→Bool) (l:List aX):cX (l.filter p)≤cX l:=by
 unfold cX
 induction l with
 |nil=>simp
 |cons x l ih=>
  rw[List.filter_cons]
  split
  ·simp only[List.map_cons,List.sum_cons];omega
  ·simp only[List.map_cons,List.sum_cons];omega
theorem sQ {l:List aX}(h:∀x∈l,gu x):∀x∈l,x.f3.length≤9223372036854775807∧x.f4.length≤9223372036854775807∧x.f5.length≤9223372036854775807:=fun x hx=>by
 have a:=(h x hx).d;have b:=(h x hx).e;have c:=(h x hx).t
 omega
end Go.Proofs.YtlecajlnjmbilaaGreatDoor.Q
namespace Go.Proofs.YtlecajlnjmbilaaGreatDoor.Q
open Go.RowKit Go.Proofs.YtlecajlnjmbilaaGreatDoor.P Go.Proofs.ab.ar Go.Proofs.ab.aH Go.Proofs.ab.aN
theorem la (ino:Int) (l:List aX):∀i:Nat,ct ino l i= -1∨((i:Int)≤ct ino l i∧ct ino l i<i+l.length):=by
 induction l with
 |nil=>intro i;exact .inl rfl
 |cons x l ih=>
  intro i;rw[ct]
  split
  ·right;simp only[List.length_cons];omega
  ·rcases ih (i+1)with h|h
   ·exact .inl h
   ·right;simp only[List.length_cons];omega
theorem pz (l:List aX) (nx ino:Int) (hl:l.length≤1048576):Ev (fun k=>cH.f k l nx ino) (ct ino l 0):=by
 have key:=down (n:=l.length) (P:=fun i=>Ev (fun k=>cH.l0 k ino (i:Nat) l nx) (ct ino (l.drop i) i)) (by
   apply ba
   simp only[cH.l0];refine dj (by omega) (eP (Ev.now _) ?_)
   rw[List.drop_length];rfl) (fun i hi h=>by
   have hrd:af l (i:Int)=l[i]:=getD_at l _ i hi
   apply ba
   simp only[cH.l0,hrd];rw[nT i l.length hi (by omega),List.drop_eq_getElem_cons hi,ct];refine bn (by omega) (bn (by omega) ?_)
   by_cases c:l[i].f0=ino
   ·exact bn c (eP (Ev.now _) (by rw[if_pos c]))
   ·exact dj c (eP h (by rw[if_neg c])))
 simpa [cH.f]using key
end Go.Proofs.YtlecajlnjmbilaaGreatDoor.Q
namespace Go.Proofs.YtlecajlnjmbilaaGreatDoor.Q
open Go.RowKit Go.Proofs.YtlecajlnjmbilaaGreatDoor.P Go.Proofs.ab.ar Go.Proofs.ab.aH Go.Proofs.ab.aN
def fh (l:List aX) (ino:Int):aX:=if ct ino l 0<0 then⟨0,0,0,[],[],[]⟩else af l (ct ino l 0)
def dp (l:List aX) (ino:Int):Bool:=decide (0≤ct ino l 0)
theorem jq (l:List aX) (ino:Int) (hs:∀x∈l,gu x):gu (fh l ino):=by
 unfold fh
 split
 ·exact⟨by simp,by simp,by simp⟩
 ·rcases la ino l 0 with h|h
  ·omega
  ·obtain⟨n,hn⟩:∃n:Nat,ct ino l 0=n:=⟨(ct ino l 0).toNat,by omega⟩;rw[hn]at h⊢
   have hlt:n<l.length:=by omega
   have hrd:af l (n:Int)=l[n]:=getD_at l _ n hlt;rw[hrd];exact hs _ (List.getElem_mem hlt)
theorem om (l:List aX) (nx ino:Int) (hl:l.length≤1048576) (hs:∀x∈l,gu x):
  Ev (fun k=>cT.f k l nx ino) ((fh l ino).f0,(fh l ino).f1,(fh l ino).f2,(fh l ino).f3,(fh l ino).f4,(fh l ino).f5,dp l ino):=by
 have hc:=jq l ino hs;have hr:=la ino l 0;unfold cT.f eH.f;refine Ev.bind (bn (by omega) (Ev.now _)) ?_
 by_cases c:ct ino l 0<0
 ·refine bn c (eP (Ev.now _) ?_);simp only[fh,dp,if_pos c,show decide (0≤ct ino l 0)=false from decide_eq_false (by omega)]
 ·have hi:fh l ino=af l (ct ino l 0):=by simp only[fh,if_neg c]
  rw[hi]at hc⊢;refine dj c (bn (by omega) (bn (by omega) ?_));simp only[sP _ hc,Option.bind_some];refine eP (Ev.now _) ?_;simp only[dp,show decide (0≤ct ino l 0)=true from decide_eq_true (by omega)]
end Go.Proofs.YtlecajlnjmbilaaGreatDoor.Q
namespace Go.Proofs.YtlecajlnjmbilaaGreatDoor.Q
open Go.RowKit Go.Proofs.YtlecajlnjmbilaaGreatDoor.P Go.Proofs.ab.ar Go.Proofs.ab.aH Go.Proofs.ab.aN
theorem qG (l:List aX) (nx ino:Int) (hl:l.length≤1048576) (hs:∀x∈l,gu x):
  Ev (fun k=>fR.f k l nx ino) ((fh l ino).f0,(fh l ino).f1,(fh l ino).f2,(fh l ino).f3,(fh l ino).f4,(fh l ino).f5,dp l ino):=by
 have hc:=jq l ino hs;have hr:=la ino l 0;unfold fR.f;refine Ev.bind (pz l nx ino hl) ?_
 by_cases c:ct ino l 0<0
 ·refine bn c (eP (Ev.now _) ?_);simp only[fh,dp,if_pos c,show decide (0≤ct ino l 0)=false from decide_eq_false (by omega)]
 ·have hi:fh l ino=af l (ct ino l 0):=by simp only[fh,if_neg c]
  rw[hi]at hc⊢;refine dj c (bn (by omega) (bn (by omega) ?_));simp only[qF _ hc,Option.bind_some];refine eP (Ev.now _) ?_;simp only[dp,show decide (0≤ct ino l 0)=true from decide_eq_true (by omega)]
end Go.Proofs.YtlecajlnjmbilaaGreatDoor.Q
namespace Go.Proofs.YtlecajlnjmbilaaGreatDoor.Q
open Go.RowKit Go.Proofs.YtlecajlnjmbilaaGreatDoor.P Go.Proofs.ab.ar Go.Proofs.ab.aH Go.Proofs.ab.aN
def lR (name:ByteArray):List cA→Int
 |[]=>0
 |e::l=>if e.f0.toList=name.toList then e.f1 else lR name l
theorem sR (a b c:Int) (d:List Int) (e:List cA) (t:List eu) (name:ByteArray) (he:e.length≤9223372036854775807):Ev (fun k=>et.f k a b c d e t name) (lR name e):=by
 unfold et.f;refine yz (fun k i=>et.l0 k name i a b c d e t) e (lR name) ?_ (fun i hi h=> ?_)
 ·apply ba
  simp only[et.l0];exact dj (by omega) (Ev.now _)
 ·apply ba
  simp only[et.l0,al,getD_at e _ i hi,lR];refine bn (by omega) (bn (by omega) ?_);rw[nT i e.length hi he];exact zn (fun _=>Ev.now _) (fun _=>h)
theorem sS (a b c:Int) (d:List Int) (e:List cA) (t:List eu) (name:ByteArray) (he:e.length≤9223372036854775807):Ev (fun k=>eA.f k a b c d e t name) (lR name e):=by
 unfold eA.f;refine yz (fun k i=>eA.l0 k name e (e.length:Int) i) e (lR name) ?_ (fun i hi h=> ?_)
 ·apply ba
  simp only[eA.l0];exact dj (by omega) (Ev.now _)
 ·apply ba
  simp only[eA.l0,al,getD_at e _ i hi,lR];refine bn (by omega) (bn (by omega) (bn (by omega) ?_));rw[nT i e.length hi he];exact zn (fun _=>Ev.now _) (fun _=>h)
end Go.Proofs.YtlecajlnjmbilaaGreatDoor.Q
namespace Go.Proofs.YtlecajlnjmbilaaGreatDoor.Q
open Go.RowKit Go.Proofs.YtlecajlnjmbilaaGreatDoor.P Go.Proofs.ab.ar Go.Proofs.ab.aH Go.Proofs.ab.aN
theorem adz (i:Nat) (n:Nat) (hi:i<n) (hn:n≤9223372036854775807):wrap64 ((i:Int)+1)=((i+1:Nat):Int):=by
 rw[ly (by omega) (by omega)];omega
theorem ad8 {n:Nat}{P:Nat→Prop}(h1:P n) (h2:∀i,i<n→P (i+1)→P i):P 0:=by
 have key:∀m i:Nat,n-i=m→i≤n→P i:=by
  intro m
  induction m with
  |zero=>
   intro i hm hi
   obtain rfl:i=n:=by omega
   exact h1
  |succ m ih=>intro i hm hi;exact h2 i (by omega) (ih (i+1) (by omega) (by omega))
 exact key n 0 (by omega) (by omega)
theorem rdS (l:List ByteArray) (i:Nat) (h:i<l.length):jb ByteArray.empty l (i:Int)=l[i]:=getD_at l _ i h
def jr (l:List ByteArray):Nat:=(l.map ByteArray.size).sum
theorem xU (l:List ByteArray) (i:Nat) (h:i<l.length):jr (l.drop i)=l[i].size+jr (l.drop (i+1)):=by
 unfold jr;rw[List.drop_eq_getElem_cons h,List.map_cons,List.sum_cons]
theorem tV (l:List ByteArray):∀x∈l,x.size≤jr l:=by
 induction l with
 |nil=>intro x hx;cases hx
 |cons y l ih=>
  intro x hx;unfold jr at ih⊢;rw[List.map_cons,List.sum_cons];rcases List.mem_cons.1 hx with rfl|hx
  ·omega
  ·have:=ih x hx;omega
theorem yC (l:List ByteArray) (hs:∀x∈l,x.size≤1048576):∀i:Nat,∃r,Ev (fun k=>badR k l i) r∧(decide (0≤r))= !(l.all gn):=by
 induction l with
 |nil=>intro i;exact⟨-1,Ev.now _,rfl⟩
 |cons x l ih=>
  intro i;have hx:=qW x (by have:=hs x (List.mem_cons_self ..);omega)
  by_cases c:gn x=true
  ·obtain⟨r,h1,h2⟩:=ih (fun y hy=>hs y (List.mem_cons_of_mem _ hy)) (i+1);refine⟨r,?_,by rw[h2,List.all_cons,c,Bool.true_and]⟩;simp only[badR];exact Ev.bind hx (bn c h1)
  ·refine⟨(i:Int),?_,by simp[c]⟩;simp only[badR];exact Ev.bind hx (dj c (Ev.now _))
def fy (l:List ByteArray):Bool:=l.all gn&&decide (l.length≤30)
theorem xV (l:List ByteArray) (hs:∀x∈l,x.size≤1048576):Ev (fun k=>fm.f k l) (fy l):=by
 unfold fm.f fy
 by_cases c:l.length≤30
 ·obtain⟨r,h1,h2⟩:=yC l hs 0;refine bn c (Ev.bind h1 (eP (Ev.now _) ?_));rw[h2];simp[c]
 ·exact dj c (eP (Ev.now _) (by simp[c]))
end Go.Proofs.YtlecajlnjmbilaaGreatDoor.Q
namespace Go.Proofs.YtlecajlnjmbilaaGreatDoor.Q
open Go.RowKit Go.Proofs.YtlecajlnjmbilaaGreatDoor.P Go.Proofs.ab.ar Go.Proofs.ab.aH Go.Proofs.ab.aN
end Go.Proofs.YtlecajlnjmbilaaGreatDoor.Q
namespace Go.Proofs.YtlecajlnjmbilaaGreatDoor.Q
open Go.RowKit Go.Proofs.YtlecajlnjmbilaaGreatDoor.P Go.Proofs.ab.ar Go.Proofs.ab.aH Go.Proofs.ab.aN
def jj (q:List UInt8):List (List UInt8)→List (List UInt8)
 |[]=>[q]
 |p::ps=>(q++p)::ps
def parts:List UInt8→List (List UInt8)
 |[]=>[[]]
 |b::l=>if b=47 then []::parts l else jj [b] (parts l)
theorem lS (l:List UInt8):parts l≠[]:=by
 cases l with
 |nil=>simp[parts]
 |cons b l=>
  rw[parts]
  split
  ·simp
  ·cases parts l<;>simp[jj]
theorem rB (X:List (List UInt8)) (h:X≠[]):jj [] X=X:=by
 cases X with
 |nil=>exact absurd rfl h
 |cons p ps=>rfl
theorem wk (q r:List UInt8) (X:List (List UInt8)):jj q (jj r X)=jj (q++r) X:=by
 cases X<;>simp[jj]
theorem zz (k:Nat) (b:UInt8) (l:List UInt8) (h:b≠47):Lib.splitK [47] 0 k (b::l)=jj [b] (Lib.splitK [47] 0 k l):=by
 cases k with
 |zero=>rfl
 |succ k=>
  have hp:([47]:List UInt8).isPrefixOf (b::l)=false:=by simp[List.isPrefixOf,Ne.symm h]
  have hix:Lib.index (b::l) [47]=if Lib.index l [47]== -1 then-1 else Lib.index l [47]+1:=by rw[Lib.index,hp];simp
  by_cases hm:Lib.index l [47]= -1
  ·rw[Lib.splitK,Lib.splitK,hix,hm];rfl
  ·have hge:=Lib.index_ge l [47];obtain⟨j,hj⟩:∃j:Nat,Lib.index l [47]=j:=⟨(Lib.index l [47]).toNat,by omega⟩
   have hix':Lib.index (b::l) [47]=((j+1:Nat):Int):=by rw[hix,if_neg (fun e=>hm (beq_iff_eq.1 e)),hj];omega
   have n1:¬(((j+1:Nat):Int)== -1)=true:=fun e=>by have:=beq_iff_eq.1 e;omega
   have n2:¬((j:Int)== -1)=true:=fun e=>by have:=beq_iff_eq.1 e;omega
   rw[Lib.splitK,Lib.splitK,hix',hj,if_neg n1,if_neg n2,Int.toNat_natCast,Int.toNat_natCast];simp[jj]
theorem z_ (k:Nat) (l:List UInt8):Lib.splitK [47] 0 (k+1) (47::l)=[]::Lib.splitK [47] 0 k l:=by
 have hix:Lib.index (47::l) [47]=0:=by rw[Lib.index];simp[List.isPrefixOf]
 rw[Lib.splitK,hix,if_neg (by decide)];simp
theorem uW (l:List UInt8):Lib.splitK [47] 0 (Lib.count l [47]) l=parts l:=by
 induction l with
 |nil=>rw[Lib.count_miss (by simp[Lib.index])];rfl
 |cons b l ih=>
  rw[parts]
  by_cases h:b=47
  ·subst h;rw[if_pos rfl,Lib.count_cons_eq,Nat.add_comm,z_,ih]
  ·rw[if_neg h,Lib.count_cons_ne b 47 l h,zz _ _ _ h,ih]
def pQ (l:List UInt8):ByteArray:=⟨l.toArray⟩
theorem sU (s:ByteArray):pQ s.data.toList=s:=by simp[pQ]
theorem wm (l:List UInt8):(pQ l).size=l.length:=by rw[←gf];simp[pQ]
theorem wo (l:List UInt8):(pQ l).data.toList=l:=by simp[pQ]
theorem uX (s:ByteArray):Lib.splitB ⟨#[47]⟩ 0 (Lib.countB s ⟨#[47]⟩) s=(parts s.data.toList).map pQ:=by
 have h:=Lib.splitB_data ⟨#[47]⟩ 0 (Lib.countB s ⟨#[47]⟩) s;have hc:Lib.countB s ⟨#[47]⟩=Lib.count s.data.toList [47]:=rfl;rw[show(⟨#[47]⟩:ByteArray).data.toList=[47]from rfl,hc,uW]at h;rw[hc,←h,List.map_map]
 conv=>lhs;rw[←List.map_id (Lib.splitB _ _ _ _)]
 apply List.map_congr_left
 intro x _;exact(sU x).symm
theorem Aa (l:List UInt8):∀p∈parts l,p.length≤l.length:=by
 induction l with
 |nil=>intro p hp;simp[parts]at hp;subst hp;simp
 |cons b l ih=>
  intro p hp;rw[parts]at hp
  split at hp
  ·rcases List.mem_cons.1 hp with rfl|hp
   ·simp
   ·have:=ih p hp;simp;omega
  ·cases hX:parts l with
   |nil=>exact absurd hX (lS l)
   |cons q X=>
    rw[hX]at hp ih;rcases List.mem_cons.1 hp with rfl|hp
    ·have:=ih q (List.mem_cons_self ..);simp;omega
    ·have:=ih p (List.mem_cons_of_mem _ hp);simp;omega
theorem tW (l:List UInt8):(parts l).length≤l.length+1:=by
 induction l with
 |nil=>simp[parts]
 |cons b l ih=>
  rw[parts]
  split
  ·simp;omega
  ·cases hX:parts l with
   |nil=>simp[jj]
   |cons q X=>rw[hX]at ih;simp[jj]at ih⊢;omega
def fv (s:ByteArray):List ByteArray×Bool:=
 if s.toList=([47]:List UInt8)then([],true)else
 match(parts s.data.toList).map pQ with
 |[]=>([],false)
 |x::l=>if x.toList=[]∧l≠[]∧fy l=true then(l,true)else([],false)
theorem qc (s:ByteArray) (hs:s.size≤1048576):Ev (fun k=>dz.f k s) (fv s):=by
 unfold dz.f fv;refine zn (fun _=>Ev.now _) (fun _=> ?_)
 have h0:strings_Split.f s ⟨#[47]⟩=some ((parts s.data.toList).map pQ):=by
  unfold strings_Split.f;rw[if_pos ⟨by omega,by decide⟩,uX]
 simp only[h0,Option.bind_some];have hps:=Aa s.data.toList;have hsz:s.data.toList.length=s.size:=gf s;have hpl:=tW s.data.toList
 cases hX:parts s.data.toList with
 |nil=>exact absurd hX (lS _)
 |cons p ps=>
  rw[hX]at hps hpl;rw[List.map_cons];refine bn (by rw[List.length_cons];omega) ?_;have hr:jb ByteArray.empty (pQ p::ps.map pQ) 0=pQ p:=rfl;simp only[hr]
  by_cases c:(pQ p).toList=[]
  ·refine bn c ?_
   cases hq:ps with
   |nil=>exact bn (by simp) (eP (Ev.now _) (by simp))
   |cons q qs=>
    rw[←hq]
    have hne:ps.map pQ≠[]:=by rw[hq];simp
    have hl:0<ps.length:=by rw[hq];simp
    refine dj (by simp;omega) (bn (by simp;omega) ?_)
    have hn:=xV (ps.map pQ) (by
     intro x hx;obtain⟨y,hy,rfl⟩:=List.mem_map.1 hx;rw[wm];have:=hps y (List.mem_cons_of_mem _ hy)
     omega)
    refine Ev.bind hn ?_
    by_cases g:fy (ps.map pQ)=true
    ·exact bn g (eP (Ev.now _) (by rw[if_pos ⟨c,hne,g⟩];rfl))
    ·exact dj g (eP (Ev.now _) (by rw[if_neg (fun h=>g h.2.2)]))
  ·exact dj c (eP (Ev.now _) (by rw[if_neg (fun h=>c h.1)]))
def proc:List ByteArray→List (List UInt8)→Option (List ByteArray)
 |out,[]=>some out
 |out,p::ps=>if gn (pQ p)=true then(if out.length=30 then none else proc (out++[pQ p]) ps)else none
theorem ack (ps:List (List UInt8)):∀out:List ByteArray,out.length≤30→proc out ps=if(ps.map pQ).all gn=true∧out.length+ps.length≤30 then some (out++ps.map pQ)else none:=by
 induction ps with
 |nil=>intro out h;simp[proc,h]
 |cons p ps ih=>
  intro out h;rw[proc]
  by_cases c:gn (pQ p)=true
  ·rw[if_pos c]
   by_cases d:out.length=30
   ·rw[if_pos d,if_neg (by simp;omega)]
   ·rw[if_neg d,ih _ (by simp;omega)];simp only[List.map_cons,List.all_cons,c,Bool.true_and,List.length_append,List.length_cons,List.length_nil,List.append_assoc,List.singleton_append]
    congr 1
    simp only[Nat.zero_add,Nat.add_assoc,Nat.add_comm 1]
  ·rw[if_neg c,if_neg (by simp[c])]
def uY (s:ByteArray):Option (List ByteArray)→List ByteArray×Bool
 |none=>([],false)
 |some out=>if s.data.toList.head? =some 47 then(out,true)else([],false)
theorem uZ (s:ByteArray) (i:Nat) (h:i<s.size):bt s (i:Int)=((s.data.toList[i]'(by rw[gf];exact h)).toNat:Int):=by
 rw[←iK s (i:Int) (by rw[Int.toNat_natCast];exact h)];simp only[Int.toNat_natCast]
 rfl
theorem u47 (b:UInt8):((b.toNat:Int)=47)↔b=47:=by
 constructor
 ·intro h
  have:b.toNat=47:=by omega
  exact UInt8.toNat_inj.1 (this.trans rfl)
 ·rintro rfl;rfl
theorem ph (s:ByteArray) (out:List ByteArray) (i f:Int) (k:Nat) (h:¬i≤(s.size:Int)):aE.l0 (k+1) s out f i=some (uY s (some out)):=by
 simp only[aE.l0];rw[if_neg h];have hsz:s.data.toList.length=s.size:=gf s
 cases hd:s.data.toList with
 |nil=>
  rw[hd]at hsz;rw[if_pos (by simp at hsz;omega)];simp[uY,hd]
 |cons b l=>
  have hl:0<s.size:=by rw[←hsz,hd];simp
  rw[if_neg (by omega),if_pos (by omega)];have hb:=uZ s 0 hl;simp only[hd,List.getElem_cons_zero]at hb;have hb':bt s 0=(b.toNat:Int):=hb;rw[hb']
  by_cases c:b=47
  ·rw[if_pos ((u47 b).2 c)];simp[uY,hd,c]
  ·rw[if_neg (fun h=>c ((u47 b).1 h))];simp[uY,hd,c]
theorem drop_at (s:ByteArray) (i:Nat) (h:i<s.size):s.data.toList.drop i=(s.data.toList[i]'(by rw[gf];exact h))::s.data.toList.drop (i+1):=List.drop_eq_getElem_cons _
theorem oC (s:ByteArray) (hs:s.size≤1048576):∀(n i f:Nat) (out:List ByteArray),1≤i→i≤s.size→f≤i→s.size-i=n→out.length≤30→
  Ev (fun k=>aE.l0 k s out f i) (uY s (proc out (jj ((s.data.toList.drop f).take (i-f)) (parts (s.data.toList.drop i))))):=by
 have hsz:s.data.toList.length=s.size:=gf s;intro n
 induction n with
 |zero=>
  intro i f out h1 hi hf hn ho
  obtain rfl:i=s.size:=by omega
  have hx:(s.extract f s.size)=pQ ((s.data.toList.drop f).take (s.size-f)):=by
   rw[←sU (s.extract f s.size)]
   congr 1
   rw[Lib.extract_data]
  have hsl:(s.extract f s.size).size≤9223372036854775807:=by rw[ByteArray.size_extract];omega
  rw[List.drop_eq_nil_of_le (by omega:s.data.toList.length≤s.size)];have hnm:=mw (s.extract f s.size) hsl
  apply ba
  simp only[aE.l0];refine bn (by omega) (dj (by omega) ?_)
  apply ba
  simp only[aE.j1];refine dj (by simp) (bn (by omega) (bn (by omega) (bn (by omega) (bn (by omega) ?_))));simp only[Int.toNat_natCast];refine Ev.bind hnm ?_;rw[hx];simp only[parts,jj,List.append_nil,proc]
  by_cases c:gn (pQ ((s.data.toList.drop f).take (s.size-f)))=true
  ·refine bn c ?_;rw[if_pos c]
   by_cases d:out.length=30
   ·rw[if_pos d];exact bn (by omega) (Ev.now _)
   ·rw[if_neg d];refine dj (by omega) (bn (by omega) ?_)
    apply ba
    rw[ly (by omega) (by omega)];simp only[ph s _ _ _ _ (show¬((s.size:Int)+1)≤(s.size:Int) by omega)];exact Ev.now _
  ·rw[if_neg c];exact dj c (Ev.now _)
 |succ n ih=>
  intro i f out h1 hi hf hn ho
  have hlt:i<s.size:=by omega
  have hb:=uZ s i hlt;have hd:=drop_at s i hlt;generalize hB:(s.data.toList[i]'(by rw[gf];exact hlt))=B at hb hd
  have hnx:wrap64 ((i:Int)+1)=((i+1:Nat):Int):=by rw[ly (by omega) (by omega)];omega
  have htk:(s.data.toList.drop f).take (i+1-f)=(s.data.toList.drop f).take (i-f)++[B]:=by
   rw[show i+1-f=(i-f)+1 by omega,List.take_succ_eq_append_getElem (by rw[List.length_drop];omega)]
   congr 2
   rw[List.getElem_drop];simp only[show f+(i-f)=i by omega];exact hB
  apply ba
  simp only[aE.l0];refine bn (by omega) (bn (by omega) (bn (by omega) ?_))
  apply ba
  simp only[aE.j1];rw[hb,hnx]
  by_cases c:B=47
  ·have hx:(s.extract f i)=pQ ((s.data.toList.drop f).take (i-f)):=by
    rw[←sU (s.extract f i)]
    congr 1
    rw[Lib.extract_data]
   have hsl:(s.extract f i).size≤9223372036854775807:=by rw[ByteArray.size_extract];omega
   have hnm:=mw (s.extract f i) hsl;rw[hd,parts,if_pos c];refine dj (by simp[(u47 B).2 c]) (bn (by omega) (bn (by omega) (bn (by omega) (bn (by omega) ?_))));simp only[Int.toNat_natCast];refine Ev.bind hnm ?_;rw[hx];simp only[jj,List.append_nil,proc]
   by_cases cn:gn (pQ ((s.data.toList.drop f).take (i-f)))=true
   ·refine bn cn ?_;rw[if_pos cn]
    by_cases d:out.length=30
    ·rw[if_pos d];exact bn (by omega) (Ev.now _)
    ·rw[if_neg d];refine dj (by omega) (bn (by omega) ?_);have:=ih (i+1) (i+1) (out++[pQ ((s.data.toList.drop f).take (i-f))]) (by omega) (by omega) (Nat.le_refl _) (by omega) (by simp;omega);rw[Nat.sub_self,List.take_zero,rB _ (lS _)]at this;exact this
   ·rw[if_neg cn];exact dj cn (Ev.now _)
  ·rw[hd,parts,if_neg c,wk,←htk];refine bn (by simpa using fun h=>c ((u47 B).1 h)) ?_;exact ih (i+1) f out (by omega) (by omega) (by omega) (by omega) ho
theorem qd (s:ByteArray) (hs:s.size≤1048576):Ev (fun k=>aE.f k s) (fv s):=by
 have hsz:s.data.toList.length=s.size:=gf s;unfold aE.f fv;simp only[Option.bind_some];refine zn (fun _=>Ev.now _) (fun _=> ?_)
 cases hd:s.data.toList with
 |nil=>
  rw[hd]at hsz
  have h0:s.size=0:=by simpa using hsz.symm
  apply ba
  simp only[aE.l0];refine bn (by omega) (dj (by omega) ?_)
  apply ba
  simp only[aE.j1];refine dj (by simp) (dj (by omega) ?_)
  apply ba
  simp only[ph s _ _ _ _ (show¬(wrap64 (0+1))≤(s.size:Int) by rw[h0,ly (by omega) (by omega)];omega)];exact eP (Ev.now _) (by simp[uY,hd,parts])
 |cons b l=>
  have hl:0<s.size:=by rw[←hsz,hd];simp
  have hb:=uZ s 0 hl;simp only[hd,List.getElem_cons_zero]at hb;have hb':bt s 0=(b.toNat:Int):=hb
  apply ba
  simp only[aE.l0];refine bn (by omega) (bn (by omega) (bn (by omega) ?_))
  apply ba
  simp only[aE.j1];rw[hb',show wrap64 (0+1)=((1:Nat):Int)from ly (by omega) (by omega)]
  by_cases c:b=47
  ·refine dj (by simp[(u47 b).2 c]) (dj (by omega) ?_);have:=oC s hs (s.size-1) 1 1 [] (by omega) (by omega) (Nat.le_refl _) rfl (by simp);refine eP this ?_;rw[Nat.sub_self,List.take_zero,rB _ (lS _),ack _ _ (by simp),hd,parts,if_pos c];simp only[List.drop_succ_cons,List.drop_zero,List.map_cons,List.length_nil,Nat.zero_add,List.nil_append]
   have hne:(parts l).map pQ≠[]:=by
    intro h;exact lS l (List.map_eq_nil_iff.1 h)
   have he:(pQ []).toList=[]:=by rw[toList_data,wo]
   by_cases g:fy ((parts l).map pQ)=true
   ·have g':=g;simp only[fy,List.length_map,Bool.and_eq_true,decide_eq_true_eq]at g';rw[if_pos g',if_pos ⟨he,hne,g⟩];simp[uY,hd,c]
   ·have g':¬(((parts l).map pQ).all gn=true∧(parts l).length≤30):=by
     intro h;apply g;simp only[fy,List.length_map,Bool.and_eq_true,decide_eq_true_eq];exact h
    rw[if_neg g',if_neg (fun h=>g h.2.2)]
    rfl
  ·refine bn (by simpa using fun h=>c ((u47 b).1 h)) ?_;have:=oC s hs (s.size-1) 1 0 [] (by omega) (by omega) (by omega) rfl (by simp);refine eP this ?_
   have hf:∀x,uY s x=([],false):=by
    intro x
    cases x with
    |none=>rfl
    |some out=>simp[uY,hd,c]
   rw[hf,parts,if_neg c]
   cases hX:parts l with
   |nil=>exact absurd hX (lS l)
   |cons p ps=>
    simp only[jj,List.map_cons];rw[if_neg];intro h;have:=h.1;rw[toList_data,wo]at this;simp at this
end Go.Proofs.YtlecajlnjmbilaaGreatDoor.Q
namespace Go.Proofs.YtlecajlnjmbilaaGreatDoor.Q
open Go.RowKit Go.Proofs.YtlecajlnjmbilaaGreatDoor.P Go.Proofs.ab.ar Go.Proofs.ab.aH Go.Proofs.ab.aN
theorem yD (b:ByteArray):b++(⟨#[]⟩:ByteArray)=b:=ByteArray.ext (by rw[ByteArray.data_append];simp)
theorem acm (b:ByteArray):(⟨#[]⟩:ByteArray)++b=b:=ByteArray.ext (by rw[ByteArray.data_append];simp)
def pj:List ByteArray→ByteArray
 |[]=>⟨#[]⟩
 |x::l=>(⟨#[47]⟩++x)++pj l
theorem sV (l:List ByteArray):(pj l).size=l.length+jr l:=by
 induction l with
 |nil=>rfl
 |cons x l ih=>
  rw[pj,ByteArray.size_append,ByteArray.size_append,ih];have:(⟨#[47]⟩:ByteArray).size=1:=rfl;simp only[jr,List.map_cons,List.sum_cons,List.length_cons]at*
  omega
theorem xW (l:List (List UInt8)):jr (l.map pQ)=(l.map List.length).sum:=by
 unfold jr;rw[List.map_map];exact congrArg List.sum (List.map_congr_left fun x _=>wm x)
theorem Ab (l:List UInt8):((parts l).map List.length).sum≤l.length:=by
 induction l with
 |nil=>simp[parts]
 |cons b l ih=>
  rw[parts]
  split
  ·simp;omega
  ·cases hX:parts l with
   |nil=>exact absurd hX (lS l)
   |cons q X=>rw[hX]at ih;simp[jj]at ih⊢;omega
theorem nD (s:ByteArray):(fv s).1.length≤s.size∧jr (fv s).1≤s.size:=by
 have h1:=tW s.data.toList;have h2:=Ab s.data.toList;rw[gf]at h1 h2;unfold fv
 split
 ·simp[jr]
 ·split
  ·simp[jr]
  ·rename_i x l hX
   split
   ·cases hP:parts s.data.toList with
    |nil=>exact absurd hP (lS _)
    |cons p ps=>
     rw[hP]at hX h1 h2;simp only[List.map_cons,List.cons.injEq]at hX;obtain⟨_,rfl⟩:=hX;simp only[List.length_map,xW];simp only[List.map_cons,List.sum_cons,List.length_cons]at h1 h2
     omega
   ·simp[jr]
theorem sW (l:List ByteArray) (n:Nat):jr (l.take n)≤jr l:=by
 induction l generalizing n with
 |nil=>simp
 |cons x l ih=>
  cases n with
  |zero=>simp[jr]
  |succ n=>have:=ih n;simp[jr]at this⊢;omega
def sX (l:List ByteArray):ByteArray:=if l.length=0 then⟨#[47]⟩else if fy l=true then pj l else⟨#[]⟩
theorem acn (s:ByteArray) (h:gn s=true):(∀b∈s.data.toList,b≠47)∧1≤s.size∧s.size≤14:=by
 unfold gn lq at h;simp only[Bool.and_eq_true,decide_eq_true_eq]at h;refine⟨fun b hb e=> ?_,h.2.1.1⟩;have:=List.all_eq_true.1 h.1 (b.toNat:Int) (by unfold bytesOf;exact List.mem_map.2 ⟨b,hb,rfl⟩);subst e;exact absurd this (by decide)
theorem xX (l:List ByteArray) (hg:fy l=true):(sX l).size=max 1 (l.length+jr l):=by
 unfold sX
 by_cases c:l.length=0
 ·rw[if_pos c,List.eq_nil_of_length_eq_zero c];rfl
 ·rw[if_neg c,if_pos hg,sV];omega
end Go.Proofs.YtlecajlnjmbilaaGreatDoor.Q
namespace Go.Proofs.YtlecajlnjmbilaaGreatDoor.Q
open Go.RowKit Go.Proofs.YtlecajlnjmbilaaGreatDoor.P Go.Proofs.ab.ar Go.Proofs.ab.aH Go.Proofs.ab.aN
def tX (T:List aX):List ByteArray→Int→Int×Int
 |[],ino=>(ino,0)
 |n::l,ino=>if dp T ino=true then(if(fh T ino).f1=2 then(if lR n (fh T ino).f4=0 then(0,2)else tX T l (lR n (fh T ino).f4))else(0,3))else(0,2)
def lA (T:List aX) (s:ByteArray):Int×Int:=if(fv s).2=true then tX T (fv s).1 1 else(0,1)
theorem wq {γ:Type}(L:Nat→Int→Int→Option γ) (xs:List ByteArray) (F:List ByteArray→Int→γ) (h1:∀ino,Ev (fun k=>L k ino (xs.length:Nat)) (F [] ino))
  (h2:∀(i:Nat) (hi:i<xs.length) (ino:Int),(∀ad9,Ev (fun k=>L k ad9 ((i+1:Nat):Int)) (F (xs.drop (i+1)) ad9))→Ev (fun k=>L k ino (i:Nat)) (F (xs[i]::xs.drop (i+1)) ino)) (ino:Int):Ev (fun k=>L k ino 0) (F xs ino):=by
 have key:∀m i:Nat,xs.length-i=m→i≤xs.length→∀ino,Ev (fun k=>L k ino (i:Nat)) (F (xs.drop i) ino):=by
  intro m
  induction m with
  |zero=>
   intro i hm hi ino
   obtain rfl:i=xs.length:=by omega
   rw[List.drop_length];exact h1 ino
  |succ m ih=>
   intro i hm hi ino;rw[List.drop_eq_getElem_cons (by omega)];exact h2 i (by omega) ino (ih (i+1) (by omega) (by omega))
 simpa using key xs.length 0 (by omega) (by omega) ino
theorem Ac (T:List aX) (nx:Int) (s:ByteArray) (hT:T.length≤1048576) (hs:∀x∈T,gu x) (h:s.size≤1048576):Ev (fun k=>fw.f k T nx s) (lA T s):=by
 unfold fw.f lA;refine Ev.bind (qc s h) ?_;have hl:=(nD s).1;generalize fv s=p at*;refine zn (fun _=> ?_) (fun _=>Ev.now _);refine wq (fun k ino i=>fw.l0 k ino p.1 p.1.length i T nx) p.1 (tX T) (fun ino=> ?_) (fun i hi ino ih=> ?_) 1
 ·apply ba
  simp only[fw.l0];exact dj (by omega) (Ev.now _)
 ·have hx:=jq T ino hs
  apply ba
  simp only[fw.l0,tX];rw[adz i p.1.length hi (by omega),rdS p.1 i hi];refine bn (by omega) (bn (by omega) (bn (by omega) (Ev.bind (om T nx ino hT hs) ?_)));refine zn (fun _=>zn (fun _=> ?_) (fun _=>Ev.now _)) (fun _=>Ev.now _);refine Ev.bind (sS _ _ _ _ _ _ p.1[i] (by have:=hx.e;dsimp only;omega)) ?_;exact zn (fun _=>Ev.now _) (fun _=>ih _)
theorem Ad (T:List aX) (nx:Int) (s:ByteArray) (hT:T.length≤1048576) (hs:∀x∈T,gu x) (h:s.size≤1048576):Ev (fun k=>kv.f k T nx s) (lA T s):=by
 unfold kv.f lA;refine Ev.bind (qd s h) ?_;have hl:=(nD s).1;generalize fv s=p at*;refine zn (fun _=> ?_) (fun _=>Ev.now _);unfold cM.f;refine Ev.bind (wq (fun k ino i=>cM.l0 k p.1 ino i T nx) p.1 (tX T) (fun ino=> ?_) (fun i hi ino ih=> ?_) 1) (Ev.now _)
 ·apply ba
  simp only[cM.l0];exact dj (by omega) (Ev.now _)
 ·have hx:=jq T ino hs;have hr:=la ino T 0
  apply ba
  simp only[cM.l0,tX];rw[adz i p.1.length hi (by omega),rdS p.1 i hi];refine bn (by omega) (Ev.bind (pz T nx ino hT) ?_)
  by_cases c:ct ino T 0<0
  ·have hn:¬dp T ino=true:=by simp only[dp,decide_eq_true_eq];omega
   rw[if_neg hn];exact bn c (Ev.now _)
  ·have hy:dp T ino=true:=by simp only[dp,decide_eq_true_eq];omega
   have hi':fh T ino=af T (ct ino T 0):=by simp only[fh,if_neg c]
   rw[if_pos hy,hi'];rw[hi']at hx;refine dj c (bn (by omega) (bn (by omega) (zn (fun _=>bn (by omega) ?_) (fun _=>Ev.now _))));refine Ev.bind (sR _ _ _ _ _ _ p.1[i] (by have:=hx.e;omega)) ?_;exact zn (fun _=>Ev.now _) (fun _=>ih _)
end Go.Proofs.YtlecajlnjmbilaaGreatDoor.Q
namespace Go.Proofs.YtlecajlnjmbilaaGreatDoor.Q
open Go.RowKit Go.Proofs.YtlecajlnjmbilaaGreatDoor.P Go.Proofs.ab.ar Go.Proofs.ab.aH Go.Proofs.ab.aN
def nr:aX:=⟨0,0,0,[],[],[]⟩
def fp (T:List aX) (s:ByteArray):aX×Int:=
 if(lA T s).2=0 then(if dp T (lA T s).1=true then(fh T (lA T s).1,0)else(nr,2))else(nr,(lA T s).2)
def wP (p:aX×Int):Int×Int×Int×List Int×List cA×List eu×Int:=(p.1.f0,p.1.f1,p.1.f2,p.1.f3,p.1.f4,p.1.f5,p.2)
theorem nE (T:List aX) (s:ByteArray) (hs:∀x∈T,gu x):gu (fp T s).1:=by
 unfold fp
 split
 ·split
  ·exact jq T _ hs
  ·exact⟨by simp[nr],by simp[nr],by simp[nr]⟩
 ·exact⟨by simp[nr],by simp[nr],by simp[nr]⟩
theorem tY (T:List aX) (nx:Int) (s:ByteArray) (hT:T.length≤1048576) (hs:∀x∈T,gu x) (h:s.size≤1048576):Ev (fun k=>ix.f k T nx s) (wP (fp T s)):=by
 unfold ix.f;refine Ev.bind (Ac T nx s hT hs h) ?_
 by_cases c:(lA T s).2=0
 ·refine bn c (Ev.bind (om T nx _ hT hs) ?_)
  by_cases d:dp T (lA T s).1=true
  ·exact bn d (eP (Ev.now _) (by simp only[fp,wP,if_pos c,if_pos d]))
  ·exact dj d (eP (Ev.now _) (by simp only[fp,wP,if_pos c,if_neg d];rfl))
 ·exact dj c (eP (Ev.now _) (by simp only[fp,wP,if_neg c];rfl))
theorem tZ (T:List aX) (nx:Int) (s:ByteArray) (hT:T.length≤1048576) (hs:∀x∈T,gu x) (h:s.size≤1048576):Ev (fun k=>f_.f k T nx s) (wP (fp T s)):=by
 unfold f_.f;refine Ev.bind (Ad T nx s hT hs h) ?_
 by_cases c:(lA T s).2=0
 ·refine bn c (Ev.bind (qG T nx _ hT hs) ?_)
  by_cases d:dp T (lA T s).1=true
  ·exact bn d (eP (Ev.now _) (by simp only[fp,wP,if_pos c,if_pos d]))
  ·exact dj d (eP (Ev.now _) (by simp only[fp,wP,if_pos c,if_neg d];rfl))
 ·exact dj c (eP (Ev.now _) (by simp only[fp,wP,if_neg c];rfl))
end Go.Proofs.YtlecajlnjmbilaaGreatDoor.Q
namespace Go.Proofs.YtlecajlnjmbilaaGreatDoor.Q
open Go.RowKit Go.Proofs.YtlecajlnjmbilaaGreatDoor.P Go.Proofs.ab.ar Go.Proofs.ab.aH Go.Proofs.ab.aN
theorem xY:∀(a b:List Int),a.Pairwise (·<·)→b.Pairwise (·<·)→(∀x,x∈a↔x∈b)→a=b
 |[],[],_,_,_=>rfl
 |[],y::b,_,_,h=>absurd ((h y).2 (List.mem_cons_self ..)) (by simp)
 |x::a,[],_,_,h=>absurd ((h x).1 (List.mem_cons_self ..)) (by simp)
 |x::a,y::b,ha,hb,h=>by
  obtain⟨ha1,ha2⟩:=List.pairwise_cons.1 ha;obtain⟨hb1,hb2⟩:=List.pairwise_cons.1 hb
  have hxy:x=y:=by
   rcases List.mem_cons.1 ((h x).1 (List.mem_cons_self ..))with h1|h1
   ·exact h1
   ·rcases List.mem_cons.1 ((h y).2 (List.mem_cons_self ..))with h2|h2
    ·exact h2.symm
    ·have:=hb1 x h1;have:=ha1 y h2;omega
  subst hxy;rw[xY a b ha2 hb2 (fun z=> ?_)]
  constructor
  ·intro hz;rcases List.mem_cons.1 ((h z).1 (List.mem_cons_of_mem _ hz))with rfl|h1
   ·have:=ha1 z hz;omega
   ·exact h1
  ·intro hz;rcases List.mem_cons.1 ((h z).2 (List.mem_cons_of_mem _ hz))with rfl|h1
   ·have:=hb1 z hz;omega
   ·exact h1
theorem Ae (l:List Int) (x:Int):x∈ox l↔x∈l:=List.mem_mergeSort ..
theorem abq (l:List Int) (h:l.Nodup):(ox l).Pairwise (·<·):=by
 have h1:(ox l).Pairwise fun x y=>decide (x≤y)=true:=List.pairwise_mergeSort (fun a b c h1 h2=>by simp at*;omega) (fun a b=>by simp;omega) l
 have h2:(ox l).Nodup:=(List.mergeSort_perm l _).nodup_iff.2 h;exact(h1.and h2).imp (fun⟨a,b⟩=>by simp at a;omega)
def vp (xs:List Int) (n:Int):Nat→Nat
 |0=>0
 |k+1=>if xs.getD k 0>n then vp xs n k else k+1
def sY (xs:List Int) (n:Int):List Int:=if n∈xs then xs else xs.take (vp xs n xs.length)++[n]++xs.drop (vp xs n xs.length)
theorem abr (xs:List Int) (n:Int):∀k,vp xs n k≤k
 |0=>Nat.le_refl _
 |k+1=>by rw[vp];split;exact Nat.le_succ_of_le (abr xs n k);exact Nat.le_refl _
theorem wu (xs:List Int) (n x:Int):x∈sY xs n↔x∈xs∨x=n:=by
 unfold sY
 split
 ·constructor
  ·exact .inl
  ·rintro(h|rfl)<;>assumption
 ·rw[List.mem_append,List.mem_append,List.mem_singleton]
  conv=>rhs;rw[←List.take_append_drop (vp xs n xs.length) xs,List.mem_append]
  constructor
  ·rintro((h|h)|h)
   ·exact .inl (.inl h)
   ·exact .inr h
   ·exact .inl (.inr h)
  ·rintro((h|h)|h)
   ·exact .inl (.inl h)
   ·exact .inr h
   ·exact .inl (.inr h)
theorem abt (xs:List Int) (n:Int):∀k,k≤xs.length→∀j,vp xs n k≤j→j<k→xs.getD j 0>n
 |0,_,j,_,h=>by omega
 |k+1,hk,j,h1,h2=>by
  rw[vp]at h1
  split at h1
  ·rcases Nat.lt_or_ge j k with h|h
   ·exact abt xs n k (by omega) j h1 h
   ·obtain rfl:j=k:=by omega
    assumption
  ·omega
theorem abu (xs:List Int) (n:Int):∀k,0<vp xs n k→¬xs.getD (vp xs n k-1) 0>n
 |0,h=>by simp[vp]at h
 |k+1,h=>by
  rw[vp]at h⊢
  split
  ·rename_i hc;rw[if_pos hc]at h;exact abu xs n k h
  ·rename_i hc;simpa using hc
theorem yE (xs:List Int) (n:Int) (h:xs.Pairwise (·<·)):(sY xs n).Pairwise (·<·):=by
 unfold sY
 split
 ·exact h
 ·rename_i hn
  have hle:=abr xs n xs.length;have hgt:=abt xs n xs.length (Nat.le_refl _);have hat:=abu xs n xs.length;generalize vp xs n xs.length=j at hle hgt hat;have hp:=List.pairwise_iff_getElem.1 h
  have h1:∀a∈xs.take j,a<n:=fun a ha=>by
   obtain⟨i,hi,rfl⟩:=List.getElem_of_mem ha;rw[List.length_take]at hi;rw[List.getElem_take];have hj:=hat (by omega);rw[List.getD_eq_getElem?_getD,List.getElem?_eq_getElem (by omega),Option.getD_some]at hj
   have hne:xs[j-1]≠n:=fun e=>hn (e▸List.getElem_mem _)
   rcases Nat.lt_or_ge i (j-1)with hl|hg
   ·have:=hp i (j-1) (by omega) (by omega) hl;omega
   ·obtain rfl:i=j-1:=by omega
    omega
  have h2:∀b∈xs.drop j,n<b:=fun b hb=>by
   obtain⟨i,hi,rfl⟩:=List.getElem_of_mem hb;rw[List.length_drop]at hi;rw[List.getElem_drop];have:=hgt (j+i) (by omega) (by omega);rw[List.getD_eq_getElem?_getD,List.getElem?_eq_getElem (by omega),Option.getD_some]at this;exact this
  rw[List.pairwise_append,List.pairwise_append];refine⟨⟨h.sublist (List.take_sublist ..),List.pairwise_singleton ..,fun a ha b hb=>by rw[List.mem_singleton.1 hb];exact h1 a ha⟩,h.sublist (List.drop_sublist ..),fun a ha b hb=> ?_⟩;rcases List.mem_append.1 ha with ha|ha
  ·have:=h1 a ha;have:=h2 b hb;omega
  ·rw[List.mem_singleton.1 ha];exact h2 b hb
end Go.Proofs.YtlecajlnjmbilaaGreatDoor.Q
namespace Go.Proofs.YtlecajlnjmbilaaGreatDoor.Q
open Go.RowKit Go.Proofs.YtlecajlnjmbilaaGreatDoor.P Go.Proofs.ab.ar Go.Proofs.ab.aH Go.Proofs.ab.aN
theorem mx:∀(xs U:List Int),xs.Nodup→(∀x∈xs,x∈U)→xs.length≤U.length
 |[],_,_,_=>Nat.zero_le _
 |x::xs,U,h,hs=>by
  obtain⟨h1,h2⟩:=List.nodup_cons.1 h;have hx:=hs x (List.mem_cons_self ..);have:=mx xs (U.erase x) h2 (fun y hy=>(List.mem_erase_of_ne (fun(e:y=x)=>h1 (e▸hy))).2 (hs y (List.mem_cons_of_mem _ hy)));rw[List.length_erase_of_mem hx]at this;have:=List.length_pos_of_mem hx;simp only[List.length_cons]
  omega
theorem qZ (xs U:List Int) (h:xs.Nodup) (hs:∀x∈xs,x∈U) (hl:U.length≤xs.length):∀y∈U,y∈xs:=fun y hy=>by
 apply Classical.byContradiction
 intro hn
 have:=mx (y::xs) U (List.nodup_cons.2 ⟨hn,h⟩) (fun z hz=>by
  rcases List.mem_cons.1 hz with rfl|hz
  ·exact hy
  ·exact hs z hz)
 simp only[List.length_cons]at this
 omega
theorem nQ {l:List Int}(h:l.Pairwise (·<·)):l.Nodup:=h.imp (fun h e=>by omega)
section
variable (ex:Int→Bool) (kids:Int→List Int)
def oo (out es:List Int):List Int:=es.foldl (fun o e=>if ex e=true then sY o e else o) out
def pR (xs:List Int):List Int:=oo ex xs (xs.flatMap kids)
def wQ:Nat→List Int→List Int
 |0,xs=>xs
 |n+1,xs=>wQ n (pR ex kids xs)
def wv (xs:List Int):Prop:=∀x∈xs,∀y∈kids x,ex y=true→y∈xs
theorem wx (es:List Int):∀(out:List Int) (x:Int),x∈oo ex out es↔x∈out∨(x∈es∧ex x=true):=by
 induction es with
 |nil=>intro out x;simp[oo]
 |cons e es ih=>
  intro out x
  show x∈oo ex (if ex e=true then sY out e else out) es↔_
  rw[ih]
  by_cases c:ex e=true
  ·rw[if_pos c,wu,List.mem_cons]
   constructor
   ·rintro((h|rfl)|⟨h,k⟩)
    ·exact .inl h
    ·exact .inr ⟨.inl rfl,c⟩
    ·exact .inr ⟨.inr h,k⟩
   ·rintro(h|⟨rfl|h,k⟩)
    ·exact .inl (.inl h)
    ·exact .inl (.inr rfl)
    ·exact .inr ⟨h,k⟩
  ·rw[if_neg c,List.mem_cons]
   constructor
   ·rintro(h|⟨h,k⟩)
    ·exact .inl h
    ·exact .inr ⟨.inr h,k⟩
   ·rintro(h|⟨rfl|h,k⟩)
    ·exact .inl h
    ·exact absurd k c
    ·exact .inr ⟨h,k⟩
theorem r_ (es:List Int):∀(out:List Int),out.Pairwise (·<·)→(oo ex out es).Pairwise (·<·):=by
 induction es with
 |nil=>intro out h;exact h
 |cons e es ih=>
  intro out h
  show(oo ex (if ex e=true then sY out e else out) es).Pairwise (·<·)
  refine ih _ ?_
  split
  ·exact yE out e h
  ·exact h
theorem lJ (xs:List Int) (y:Int):y∈pR ex kids xs↔y∈xs∨((∃x∈xs,y∈kids x)∧ex y=true):=by
 unfold pR;rw[wx,List.mem_flatMap]
theorem u_:∀n (xs:List Int),xs.Pairwise (·<·)→(wQ ex kids n xs).Pairwise (·<·)
 |0,_,h=>h
 |n+1,xs,h=>u_ n _ (r_ ex _ _ h)
theorem vk:∀n (xs:List Int),∀x∈xs,x∈wQ ex kids n xs
 |0,_,_,h=>h
 |n+1,xs,x,h=>vk n _ x ((lJ ex kids xs x).2 (.inl h))
theorem vl (K:List Int) (hK:wv ex kids K):∀n (xs:List Int),(∀x∈xs,x∈K)→∀x∈wQ ex kids n xs,x∈K
 |0,_,h=>h
 |n+1,xs,h=>vl K hK n _ (fun x hx=>by
  rcases(lJ ex kids xs x).1 hx with hx|⟨⟨z,hz,hk⟩,he⟩
  ·exact h x hx
  ·exact hK z (h z hz) x hk he)
theorem yF (xs:List Int) (h:pR ex kids xs=xs):∀n,wQ ex kids n xs=xs
 |0=>rfl
 |n+1=>by rw[wQ,h];exact yF xs h n
theorem sZ (U:List Int) (hU:∀y,ex y=true→y∈U):∀n (xs:List Int),xs.Pairwise (·<·)→(∀x∈xs,x∈U)→U.length≤xs.length+n→wv ex kids (wQ ex kids n xs)
 |0,xs,h,hs,hl=>fun x _ y _ he=>qZ xs U (nQ h) hs hl y (hU y he)
 |n+1,xs,h,hs,hl=>by
  by_cases c:pR ex kids xs=xs
  ·rw[yF ex kids xs c];intro x hx y hy he;rw[←c];exact(lJ ex kids xs y).2 (.inr ⟨⟨x,hx,hy⟩,he⟩)
  ·refine sZ U hU n _ (r_ ex _ _ h) (fun x hx=> ?_) ?_
   ·rcases(lJ ex kids xs x).1 hx with hx|⟨_,he⟩
    ·exact hs x hx
    ·exact hU x he
   ·have:xs.length<(pR ex kids xs).length:=by
     apply Classical.byContradiction
     intro hn;refine c (xY _ _ (r_ ex _ _ h) h (fun x=>⟨fun hx=> ?_,fun hx=>(lJ ex kids xs x).2 (.inl hx)⟩));exact qZ xs (pR ex kids xs) (nQ h) (fun y hy=>(lJ ex kids xs y).2 (.inl hy)) (by omega) x hx
    omega
theorem xZ (U out:List Int) (hU:∀y,ex y=true→y∈U) (h1:ex 1=true) (hn:out.Nodup) (ho:wv ex kids out) (h1o:1∈out) (hmin:∀K:List Int,wv ex kids K→1∈K→∀x∈out,x∈K):
  ox out=wQ ex kids U.length [1]:=by
 have hs:=sZ ex kids U hU U.length [1] (List.pairwise_singleton ..) (fun x hx=>by rw[List.mem_singleton.1 hx];exact hU 1 h1) (by omega);refine xY _ _ (abq out hn) (u_ ex kids _ _ (List.pairwise_singleton ..)) (fun x=> ?_);rw[Ae];exact⟨hmin _ hs (vk ex kids _ _ 1 (List.mem_singleton.2 rfl)) x,vl ex kids out ho _ _ (fun y hy=>by rw[List.mem_singleton.1 hy];exact h1o) x⟩
end
end Go.Proofs.YtlecajlnjmbilaaGreatDoor.Q
namespace Go.Proofs.YtlecajlnjmbilaaGreatDoor.Q
open Go.RowKit Go.Proofs.YtlecajlnjmbilaaGreatDoor.P Go.Proofs.ab.ar Go.Proofs.ab.aH Go.Proofs.ab.aN
theorem rdI (xs:List Int) (i:Nat) (h:i<xs.length):rd xs (i:Int)=xs[i]:=by
 simp[rd,List.getD_eq_getElem?_getD,List.getElem?_eq_getElem h]
theorem abv (xs:List Int) (n:Int) (hl:xs.length≤9223372036854775807):Ev (fun k=>eY.f k xs n) (decide (n∈xs)):=by
 have key:=down (n:=xs.length) (P:=fun i=>Ev (fun k=>eY.l0 k xs n (i:Nat)) (decide (n∈xs.drop i))) (by
   apply ba
   simp only[eY.l0,List.drop_length]
   exact dj (by omega) (eP (Ev.now _) (by simp))) (fun i hi h=>by
   apply ba
   simp only[eY.l0,rdI xs i hi];rw[nT i xs.length hi hl,List.drop_eq_getElem_cons hi];refine bn (by omega) (bn (by omega) ?_)
   by_cases c:xs[i]=n
   ·exact bn c (eP (Ev.now _) (by simp[c]))
   ·exact dj c (eP h (decide_eq_decide.2 ⟨fun h=>List.mem_cons_of_mem _ h,fun h=>(List.mem_cons.1 h).resolve_left (fun e=>c e.symm)⟩)))
 simpa [eY.f]using key
theorem x_ (xs:List Int) (n:Int) (hl:xs.length≤17592186044415):∀(j:Nat),j≤xs.length→∀c:Int,Ev (fun k=>di.l0 k n (xs.take j++[c]++xs.drop j) (j:Nat)) (xs.take (vp xs n j)++[n]++xs.drop (vp xs n j)):=by
 have hset:∀(j:Nat) (c m:Int),j≤xs.length→(xs.take j++[c]++xs.drop j).set j m=xs.take j++[m]++xs.drop j:=fun j c m hj=>by
  have ht:(xs.take j).length=j:=by rw[List.length_take];omega
  rw[List.append_assoc,List.set_append_right _ _ (by omega),ht,Nat.sub_self,List.append_assoc];rfl
 have hlen:∀(j:Nat) (c:Int),j≤xs.length→(xs.take j++[c]++xs.drop j).length=xs.length+1:=fun j c hj=>by
  simp only[List.length_append,List.length_take,List.length_drop,List.length_singleton];omega
 intro j
 induction j with
 |zero=>
  intro hj c
  apply ba
  simp only[di.l0,hlen 0 c hj,Int.toNat_natCast,hset 0 c n hj,vp];exact dj (by omega) (bn (by omega) (bn (by omega) (Ev.now _)))
 |succ j ih=>
  intro hj c
  have hw:wrap64 (((j+1:Nat):Int)-1)=(j:Nat):=by rw[show((j+1:Nat):Int)-1=(j:Nat) by omega];exact ly (by omega) (by omega)
  have hr:rd (xs.take (j+1)++[c]++xs.drop (j+1)) (j:Nat)=xs[j]:=by
   rw[rdI _ j (by rw[hlen _ _ hj];omega)];rw[List.getElem_append_left (by simp only[List.length_append,List.length_take,List.length_singleton];omega),List.getElem_append_left (by rw[List.length_take];omega),List.getElem_take]
  apply ba
  simp only[di.l0,hw,hr,hlen _ c hj,Int.toNat_natCast,hset (j+1) c _ hj];refine bn (by omega) (bn (by omega) (bn (by omega) ?_))
  have hg:xs.getD j 0=xs[j]:=by rw[List.getD_eq_getElem?_getD,List.getElem?_eq_getElem (by omega)];rfl
  by_cases cc:xs[j]>n
  ·refine bn cc (bn (by omega) (bn (by omega) ?_))
   have e:xs.take (j+1)++[xs[j]]++xs.drop (j+1)=xs.take j++[xs[j]]++xs.drop j:=by
    rw[List.take_succ_eq_append_getElem (by omega),List.append_assoc,List.append_assoc,List.append_assoc,List.drop_eq_getElem_cons (i:=j) (by omega)];rfl
   rw[e,vp,if_pos (by rw[hg];exact cc)];exact ih (by omega) _
  ·refine dj cc (bn (by omega) (bn (by omega) (eP (Ev.now _) ?_)));rw[vp,if_neg (by rw[hg];exact cc)]
theorem abw (xs:List Int) (n:Int) (hl:xs.length≤17592186044414):Ev (fun k=>di.f k xs n) (sY xs n):=by
 unfold di.f;refine Ev.bind (abv xs n (by omega)) ?_
 by_cases c:n∈xs
 ·refine bn (by simp[c]) (eP (Ev.now _) ?_);unfold sY;rw[if_pos c]
 ·refine dj (by simp[c]) ?_;simp only[Option.bind_some,List.nil_append,List.length_nil];refine bn (by omega) (bn (by omega) ?_);have h:=x_ xs n (by omega) xs.length (Nat.le_refl _) n;rw[List.take_length,List.drop_length,List.append_nil]at h
  have hw:wrap64 (((xs++[n]).length:Int)-1)=(xs.length:Nat):=by
   rw[List.length_append,List.length_singleton,show((xs.length+1:Nat):Int)-1=(xs.length:Nat) by omega];exact ly (by omega) (by omega)
  rw[hw];refine eP h ?_;unfold sY;rw[if_neg c]
end Go.Proofs.YtlecajlnjmbilaaGreatDoor.Q
namespace Go.Proofs.YtlecajlnjmbilaaGreatDoor.Q
open Go.RowKit Go.Proofs.YtlecajlnjmbilaaGreatDoor.P Go.Proofs.ab.ar Go.Proofs.ab.aH Go.Proofs.ab.aN
def fq (l:List aX) (n:Int):List Int:=if dp l n=true∧(fh l n).f1=2 then(fh l n).f4.map (·.f1)else []
theorem oq (l:List aX) (n:Int) (h:dp l n=true):n∈l.map (·.f0):=by
 apply Classical.byContradiction
 intro hn;have:=vO n l 0 (fun x hx e=>hn (List.mem_map.2 ⟨x,hx,e⟩));unfold dp at h;rw[this]at h;simp at h
structure qH (l:List aX) (xs:List Int):Prop where
 lt:xs.Pairwise (·<·)
 ex:∀x∈xs,dp l x=true
theorem qH.len {l:List aX}{xs:List Int}(h:qH l xs):xs.length≤l.length:=by
 have:=mx xs (l.map (·.f0)) (nQ h.lt) (fun x hx=>oq l x (h.ex x hx))
 rwa [List.length_map]at this
theorem qH.put {l:List aX}{xs:List Int}(h:qH l xs) (n:Int) (hn:dp l n=true):qH l (sY xs n):=
 ⟨yE xs n h.lt,fun x hx=>by rcases(wu xs n x).1 hx with hx|rfl;exact h.ex x hx;exact hn⟩
theorem Af (l:List aX) (nx:Int) (xs:List Int) (i:Int) (x:aX) (R:List Int) (hl:l.length≤1048576) (he:x.f4.length≤1048576) (hk:x.f1=2)
  (fin:List Int) (hfin:Ev (fun k=>az.l0 k xs fin (wrap64 (i+1)) l nx) R):
  ∀(m:Nat),m≤x.f4.length→∀out,qH l out→oo (dp l) out ((x.f4.drop (x.f4.length-m)).map (·.f1))=fin→Ev (fun k=>az.l1 k xs out i true ((x.f4.length-m:Nat):Int) l nx x.f0 x.f1 x.f2 x.f3 x.f4 x.f5) R:=by
 intro m
 induction m with
 |zero=>
  intro _ out ho hf;rw[Nat.sub_zero,List.drop_length]at hf;have hf':out=fin:=hf;subst hf'
  apply ba
  simp only[az.l1,Nat.sub_zero];refine dj (by omega) ?_
  apply ba
  simp only[az.j2];exact dj (by decide) hfin
 |succ m ih=>
  intro hm out ho hf
  have hj:x.f4.length-(m+1)<x.f4.length:=by omega
  have hrd:al x.f4 ((x.f4.length-(m+1):Nat):Int)=x.f4[x.f4.length-(m+1)]:=getD_at x.f4 _ _ hj;rw[List.drop_eq_getElem_cons hj,show x.f4.length-(m+1)+1=x.f4.length-m by omega]at hf
  apply ba
  simp only[az.l1];refine bn (by omega) (bn trivial ?_)
  apply ba
  simp only[az.j2,hrd];rw[nT _ x.f4.length hj (by omega),show x.f4.length-(m+1)+1=x.f4.length-m by omega];refine bn (by simp[hk]) (bn (by omega) (bn (by omega) (Ev.bind (pz l nx _ hl) ?_)))
  by_cases c:0≤ct x.f4[x.f4.length-(m+1)].f1 l 0
  ·have hx:dp l x.f4[x.f4.length-(m+1)].f1=true:=decide_eq_true c;have hlen:=ho.len;refine bn c (Ev.bind (abw out _ (by omega)) (ih (by omega) _ (ho.put _ hx) ?_));rw[←hf];simp only[oo,List.map_cons,List.foldl_cons,if_pos hx]
  ·have hx:¬dp l x.f4[x.f4.length-(m+1)].f1=true:=by unfold dp;simpa using c
   refine dj c (ih (by omega) _ ho ?_);rw[←hf];simp only[oo,List.map_cons,List.foldl_cons,if_neg hx]
theorem Ag (l:List aX) (nx:Int) (xs:List Int) (i:Int) (x:aX) (ok:Bool) (R out:List Int) (hno:¬(ok=true∧x.f1=2)) (hfin:Ev (fun k=>az.l0 k xs out (wrap64 (i+1)) l nx) R):
  Ev (fun k=>az.l1 k xs out i ok 0 l nx x.f0 x.f1 x.f2 x.f3 x.f4 x.f5) R:=by
 apply ba
 simp only[az.l1];refine wa (fun _=>wa (fun hk=> ?_) (fun _=> ?_)) (fun _=> ?_)
 ·apply ba
  simp only[az.j2];exact dj (by have:x.f1≠2:=fun e=>hno ⟨hk,e⟩;simpa using this) hfin
 ·apply ba
  simp only[az.j2];exact dj (by decide) hfin
 ·apply ba
  simp only[az.j2];exact dj (by decide) hfin
theorem wy (ex:Int→Bool) (out a b:List Int):oo ex out (a++b)=oo ex (oo ex out a) b:=List.foldl_append
theorem qH.add {l:List aX}{out:List Int}(h:qH l out) (es:List Int):qH l (oo (dp l) out es):=
 ⟨r_ _ _ _ h.lt,fun x hx=>by rcases(wx (dp l) es out x).1 hx with hx|⟨_,hx⟩;exact h.ex x hx;exact hx⟩
theorem Ah (l:List aX) (nx:Int) (xs:List Int) (hl:l.length≤1048576) (hs:∀x∈l,gu x) (hx:qH l xs):Ev (fun k=>az.f k l nx xs) (pR (dp l) (fq l) xs):=by
 have hlen:=hx.len
 have key:=down (n:=xs.length) (P:=fun i=>Ev (fun k=>az.l0 k xs (oo (dp l) xs ((xs.take i).flatMap (fq l))) (i:Nat) l nx) (pR (dp l) (fq l) xs)) (by
   apply ba
   simp only[az.l0,List.take_length]
   exact dj (by omega) (Ev.now _)) (fun i hi h=>by
   have hrd:=rdI xs i hi
   have hst:oo (dp l) xs ((xs.take (i+1)).flatMap (fq l))=oo (dp l) (oo (dp l) xs ((xs.take i).flatMap (fq l))) (fq l xs[i]):=by
    rw[List.take_succ_eq_append_getElem hi,List.flatMap_append,wy];simp
   rw[hst]at h;have ho:=hx.add ((xs.take i).flatMap (fq l));generalize oo (dp l) xs ((xs.take i).flatMap (fq l))=out at h ho⊢
   apply ba
   simp only[az.l0,hrd];refine bn (by omega) (bn (by omega) (Ev.bind (qG l nx xs[i] hl hs) ?_));have hsm:=jq l xs[i] hs;rw[←nT i xs.length hi (by omega)]at h;dsimp only
   by_cases c:dp l xs[i]=true∧(fh l xs[i]).f1=2
   ·have hk:fq l xs[i]=(fh l xs[i]).f4.map (·.f1):=if_pos c;rw[hk]at h;have:=Af l nx xs i (fh l xs[i]) _ hl hsm.e c.2 _ h _ (Nat.le_refl _) out ho (by rw[Nat.sub_self,List.drop_zero]);rw[Nat.sub_self]at this;rw[c.1];exact this
   ·have hk:fq l xs[i]=[]:=if_neg c;rw[hk]at h
    exact Ag l nx xs i (fh l xs[i]) _ _ out c h)
 simpa [az.f,oo]using key
theorem qH.next {l:List aX}{xs:List Int}(h:qH l xs):qH l (pR (dp l) (fq l) xs):=h.add _
theorem vm (l:List aX) (nx:Int) (hl:l.length≤1048576) (hs:∀x∈l,gu x):Ev (fun k=>ed.f k l nx) (if dp l 1=true then wQ (dp l) (fq l) l.length [1]else []):=by
 unfold ed.f;simp only[Option.bind_some];refine Ev.bind (pz l nx 1 hl) ?_
 by_cases c:ct 1 l 0<0
 ·have:¬dp l 1=true:=by unfold dp;simp;omega
  exact bn c (eP (Ev.now _) (by rw[if_neg this]))
 ·have h1:dp l 1=true:=decide_eq_true (by omega);rw[if_pos h1];refine dj c (bn (by simp) ?_)
  have key:∀(m:Nat),m≤l.length→∀xs,qH l xs→Ev (fun k=>ed.l0 k xs ((l.length-m:Nat):Int) l nx) (wQ (dp l) (fq l) m xs):=by
   intro m
   induction m with
   |zero=>
    intro _ xs _
    apply ba
    simp only[ed.l0];exact dj (by omega) (Ev.now _)
   |succ m ih=>
    intro hm xs hx
    apply ba
    simp only[ed.l0];refine bn (by omega) (Ev.bind (Ah l nx xs hl hs hx) ?_);rw[nT _ l.length (by omega) (by omega),show l.length-(m+1)+1=l.length-m by omega];exact ih (by omega) _ hx.next
  have:=key l.length (Nat.le_refl _) [1] ⟨List.pairwise_singleton ..,fun x hx=>by rw[List.mem_singleton.1 hx];exact h1⟩;rw[Nat.sub_self]at this;exact this
end Go.Proofs.YtlecajlnjmbilaaGreatDoor.Q
namespace Go.Proofs.YtlecajlnjmbilaaGreatDoor.Q
open Go.RowKit Go.Proofs.YtlecajlnjmbilaaGreatDoor.P Go.Proofs.ab.ar Go.Proofs.ab.aH Go.Proofs.ab.aN
theorem wz (l:List aX) (nx:Int) (out:List Int) (e:List cA) (R:List Int) (he:e.length≤1048576):
  ∀(m:Nat),m≤e.length→∀q,q.length+m<17592186044416→Ev (fun k=>aY.l0 k out (q++(e.drop (e.length-m)).map (·.f1)) l nx) R→Ev (fun k=>aY.l1 k out q e (e.length:Int) ((e.length-m:Nat):Int) l nx) R:=by
 intro m
 induction m with
 |zero=>
  intro _ q _ h;rw[Nat.sub_zero,List.drop_length,List.map_nil,List.append_nil]at h
  apply ba
  simp only[aY.l1,Nat.sub_zero];exact dj (by omega) h
 |succ m ih=>
  intro hm q hq h
  have hj:e.length-(m+1)<e.length:=by omega
  have hrd:al e ((e.length-(m+1):Nat):Int)=e[e.length-(m+1)]:=getD_at e _ _ hj;rw[List.drop_eq_getElem_cons hj,show e.length-(m+1)+1=e.length-m by omega,List.map_cons]at h
  apply ba
  simp only[aY.l1,hrd];rw[nT _ e.length hj (by omega),show e.length-(m+1)+1=e.length-m by omega];refine bn (by omega) (bn (by omega) (bn (by omega) (bn (by omega) (ih (by omega) _ (by simp only[List.length_append,List.length_singleton];omega) ?_))));rw[List.append_assoc];exact h
structure ta (l:List aX) (out q:List Int):Prop where
 nd:out.Nodup
 ex:∀x∈out,dp l x=true
 sh:∀x∈out,∀y∈fq l x,dp l y=true→y∈out∨y∈q
 one:dp l 1=true→1∈out∨1∈q
 mi:∀K:List Int,wv (dp l) (fq l) K→(dp l 1=true→1∈K)→(∀x∈out,x∈K)∧∀y∈q,dp l y=true→y∈K
 ln:q.length≤1+out.length*1048576
theorem ta.len {l:List aX}{out q:List Int}(h:ta l out q):out.length≤l.length:=by
 have:=mx out (l.map (·.f0)) h.nd (fun x hx=>oq l x (h.ex x hx))
 rwa [List.length_map]at this
theorem Ai (l:List aX) (n:Int) (hs:∀x∈l,gu x):(fq l n).length≤1048576:=by
 have h:=(jq l n hs).e;unfold fq
 split
 ·rwa [List.length_map]
 ·simp
theorem ta.old {l:List aX}{out q:List Int}{n:Int}(h:ta l out (n::q)) (ho:¬(dp l n=true∧n∉out)):ta l out q:=by
 have hn:dp l n=true→n∈out:=fun e=>Classical.byContradiction fun c=>ho ⟨e,c⟩
 refine⟨h.nd,h.ex,fun x hx y hy he=> ?_,fun e=> ?_,fun K hK h1=>⟨(h.mi K hK h1).1,fun y hy=>(h.mi K hK h1).2 y (List.mem_cons_of_mem _ hy)⟩,by have:=h.ln;simp only[List.length_cons]at this;omega⟩
 ·rcases h.sh x hx y hy he with a|a
  ·exact .inl a
  ·rcases List.mem_cons.1 a with rfl|a
   ·exact .inl (hn he)
   ·exact .inr a
 ·rcases h.one e with a|a
  ·exact .inl a
  ·rcases List.mem_cons.1 a with a|a
   ·exact .inl (a▸hn (a▸e))
   ·exact .inr a
theorem ta.new {l:List aX}{out q:List Int}{n:Int}(hs:∀x∈l,gu x) (h:ta l out (n::q)) (he:dp l n=true) (hn:n∉out):ta l (out++[n]) (q++fq l n):=by
 have hk:=Ai l n hs;refine⟨?_,fun x hx=> ?_,fun x hx y hy hey=> ?_,fun e=> ?_,fun K hK h1=>⟨fun x hx=> ?_,fun y hy hey=> ?_⟩,?_⟩
 ·rw[List.nodup_append];exact⟨h.nd,by simp,fun a ha b hb=>by rw[List.mem_singleton.1 hb];exact fun e=>hn (e▸ha)⟩
 ·rcases List.mem_append.1 hx with hx|hx
  ·exact h.ex x hx
  ·rw[List.mem_singleton.1 hx];exact he
 ·rcases List.mem_append.1 hx with hx|hx
  ·rcases h.sh x hx y hy hey with a|a
   ·exact .inl (List.mem_append.2 (.inl a))
   ·rcases List.mem_cons.1 a with rfl|a
    ·exact .inl (List.mem_append.2 (.inr (List.mem_singleton.2 rfl)))
    ·exact .inr (List.mem_append.2 (.inl a))
  ·rw[List.mem_singleton.1 hx]at hy;exact .inr (List.mem_append.2 (.inr hy))
 ·rcases h.one e with a|a
  ·exact .inl (List.mem_append.2 (.inl a))
  ·rcases List.mem_cons.1 a with a|a
   ·exact .inl (List.mem_append.2 (.inr (List.mem_singleton.2 a)))
   ·exact .inr (List.mem_append.2 (.inl a))
 ·rcases List.mem_append.1 hx with hx|hx
  ·exact(h.mi K hK h1).1 x hx
  ·rw[List.mem_singleton.1 hx];exact(h.mi K hK h1).2 n (List.mem_cons_self ..) he
 ·rcases List.mem_append.1 hy with hy|hy
  ·exact(h.mi K hK h1).2 y (List.mem_cons_of_mem _ hy) hey
  ·exact hK n ((h.mi K hK h1).2 n (List.mem_cons_self ..) he) y hy hey
 ·have:=h.ln;simp only[List.length_append,List.length_cons,List.length_singleton,List.length_nil]at this⊢
  omega
theorem nI (l:List aX) (nx:Int) (hl:l.length≤1048576) (hs:∀x∈l,gu x) (out q:List Int) (n:Int) (R:List Int) (hi:ta l out (n::q))
  (hold:¬(dp l n=true∧n∉out)→Ev (fun k=>aY.l0 k out q l nx) R) (hnew:dp l n=true→n∉out→Ev (fun k=>aY.l0 k (out++[n]) (q++fq l n) l nx) R):Ev (fun k=>aY.l0 k out (n::q) l nx) R:=by
 have hlen:=hi.len;have hln:=hi.ln;simp only[List.length_cons]at hln;have hrd:rd (n::q) 0=n:=rfl;have hdr:(n::q).drop (1:Int).toNat=q:=rfl;have hsm:=jq l n hs
 apply ba
 simp only[aY.l0,hrd,hdr,Option.bind_some];refine bn (by simp only[List.length_cons];omega) (bn (by simp only[List.length_cons];omega) (bn (by simp only[List.length_cons];omega) (Ev.bind (om l nx n hl hs) ?_)));dsimp only
 by_cases c:dp l n=true
 ·have hc:eg.f out n=some (out.contains n):=by unfold eg.f;rw[if_pos (by omega)]
  refine bn c ?_;simp only[hc,Option.bind_some]
  by_cases cc:n∈out
  ·have:out.contains n=true:=by simpa using cc
   rw[this]
   apply ba
   simp only[aY.j1];exact bn trivial (hold (fun h=>h.2 cc))
  ·have:out.contains n=false:=by simpa using cc
   rw[this];have h:=hnew c cc
   apply ba
   simp only[aY.j1,Option.bind_some];refine dj (by decide) (bn (by omega) ?_)
   by_cases hk:(fh l n).f1=2
   ·have e:fq l n=(fh l n).f4.map (·.f1):=if_pos ⟨c,hk⟩;rw[e]at h;refine bn hk ?_;have hln2:out.length*1048576≤1048576*1048576:=Nat.mul_le_mul_right _ (by omega);have he:=hsm.e;have:=wz l nx (out++[n]) (fh l n).f4 R hsm.e _ (Nat.le_refl _) q (by omega) (by rw[Nat.sub_self,List.drop_zero];exact h);rw[Nat.sub_self]at this;exact this
   ·have e:fq l n=[]:=if_neg (fun h=>hk h.2);rw[e,List.append_nil]at h;exact dj hk h
 ·refine dj c ?_
  apply ba
  simp only[aY.j1];exact bn trivial (hold (fun h=>c h.1))
theorem tB (l:List aX) (nx:Int) (hl:l.length≤1048576) (hs:∀x∈l,gu x):∀(d:Nat) (q out:List Int),l.length-out.length≤d→ta l out q→∃o,Ev (fun k=>aY.l0 k out q l nx) (ox o)∧ta l o []:=by
 intro d
 induction d with
 |zero=>
  intro q
  induction q with
  |nil=>
   intro out _ h;refine⟨out,?_,h⟩;have:=h.len
   apply ba
   simp only[aY.l0];exact dj (by simp) (bn (by omega) (Ev.now _))
  |cons n q ihq=>
   intro out hd h
   by_cases c:dp l n=true∧n∉out
   ·have:=(h.new hs c.1 c.2).len;simp only[List.length_append,List.length_singleton]at this
    omega
   ·obtain⟨o,ho,hi⟩:=ihq out hd (h.old c);exact⟨o,nI l nx hl hs out q n _ h (fun _=>ho) (fun a b=>absurd ⟨a,b⟩ c),hi⟩
 |succ d ih=>
  intro q
  induction q with
  |nil=>
   intro out _ h;refine⟨out,?_,h⟩;have:=h.len
   apply ba
   simp only[aY.l0];exact dj (by simp) (bn (by omega) (Ev.now _))
  |cons n q ihq=>
   intro out hd h
   by_cases c:dp l n=true∧n∉out
   ·obtain⟨o,ho,hi⟩:=ih (q++fq l n) (out++[n]) (by simp only[List.length_append,List.length_singleton];omega) (h.new hs c.1 c.2);exact⟨o,nI l nx hl hs out q n _ h (fun a=>absurd c a) (fun _ _=>ho),hi⟩
   ·obtain⟨o,ho,hi⟩:=ihq out hd (h.old c);exact⟨o,nI l nx hl hs out q n _ h (fun _=>ho) (fun a b=>absurd ⟨a,b⟩ c),hi⟩
theorem vn (l:List aX) (nx:Int) (hl:l.length≤1048576) (hs:∀x∈l,gu x):Ev (fun k=>aY.f k l nx) (if dp l 1=true then wQ (dp l) (fq l) l.length [1]else []):=by
 obtain⟨o,ho,hi⟩:=tB l nx hl hs l.length [1] [] (by omega) ⟨List.nodup_nil,(fun x hx=>by cases hx),(fun x hx=>by cases hx),(fun _=> .inr (List.mem_singleton.2 rfl)),(fun K hK h1=>⟨(fun x hx=>by cases hx),(fun y hy he=>by rw[List.mem_singleton.1 hy]at he⊢;exact h1 he)⟩),by simp⟩;unfold aY.f;refine eP ho ?_
 by_cases c:dp l 1=true
 ·rw[if_pos c];have h1o:1∈o:=(hi.one c).resolve_right (by simp);have:=xZ (dp l) (fq l) (l.map (·.f0)) o (fun y hy=>oq l y hy) c hi.nd (fun x hx y hy he=>(hi.sh x hx y hy he).resolve_right (by simp)) h1o (fun K hK h1=>(hi.mi K hK (fun _=>h1)).1);rw[List.length_map]at this;exact this
 ·rw[if_neg c];have:o=[]:=List.eq_nil_iff_forall_not_mem.2 (fun x hx=>by have:=(hi.mi [] (fun x hx=>by cases hx) (fun e=>absurd e c)).1 x hx;cases this);rw[this];exact List.eq_nil_of_length_eq_zero (by rw[mh];rfl)
end Go.Proofs.YtlecajlnjmbilaaGreatDoor.Q
namespace Go.Proofs.YtlecajlnjmbilaaGreatDoor.Q
open Go.RowKit Go.Proofs.YtlecajlnjmbilaaGreatDoor.P Go.Proofs.ab.ar Go.Proofs.ab.aH Go.Proofs.ab.aN
theorem tb (n:Int) (l:List aX) (h:∀x∈l,x.f4.length≤1048576):eC n l≤l.length*1048576:=by
 induction l with
 |nil=>simp[eC]
 |cons x m ih=>
  have e:fT n x≤1048576:=by
   have:=h x (List.mem_cons_self ..);unfold fT
   split
   ·have:=List.length_filter_le (fun y:cA=>decide (y.f1=n)) x.f4;unfold fS;omega
   ·omega
  have:=ih (fun y hy=>h y (List.mem_cons_of_mem _ hy));simp only[eC,List.map_cons,List.sum_cons,List.length_cons]at this⊢
  omega
def nn (l:List aX) (e:List cA):Bool:=e.all fun x=>dp l x.f1
def pS (l xs:List aX):Bool:=xs.all fun x=>decide (x.f2=(eC x.f0 l:Int))&&nn l x.f4
def ot (l:List aX):List Int:=if dp l 1=true then wQ (dp l) (fq l) l.length [1]else []
def kt (l:List aX) (nx:Int):Bool:=nC l nx&&(decide ((ot l).length=l.length)&&pS l l)
theorem tc (l:List aX) (i:Nat) (hi:i<l.length):pS l (l.drop i)=(decide (l[i].f2=(eC l[i].f0 l:Int))&&nn l l[i].f4&&pS l (l.drop (i+1))):=by
 unfold pS;rw[List.drop_eq_getElem_cons hi,List.all_cons]
theorem rC (l:List aX) (e:List cA) (j:Nat) (hj:j<e.length):nn l (e.drop j)=(dp l e[j].f1&&nn l (e.drop (j+1))):=by
 unfold nn;rw[List.drop_eq_getElem_cons hj,List.all_cons]
theorem td (l:List aX) (nx i:Int) (x:aX) (Z:Bool) (hl:l.length≤1048576) (he:x.f4.length≤1048576) (hfin:Ev (fun k=>aK.l0 k (wrap64 (i+1)) l nx) Z):
  Ev (fun k=>aK.l1 k i 0 l nx x.f0 x.f1 x.f2 x.f3 x.f4 x.f5) (nn l x.f4&&Z):=by
 have key:=down (n:=x.f4.length) (P:=fun j=>Ev (fun k=>aK.l1 k i (j:Nat) l nx x.f0 x.f1 x.f2 x.f3 x.f4 x.f5) (nn l (x.f4.drop j)&&Z)) (by
   apply ba
   simp only[aK.l1,List.drop_length]
   exact dj (by omega) hfin) (fun j hj h=>by
   have hrd:al x.f4 (j:Int)=x.f4[j]:=getD_at x.f4 _ j hj
   apply ba
   simp only[aK.l1,hrd];rw[nT j x.f4.length hj (by omega),rC l x.f4 j hj];refine bn (by omega) (bn (by omega) (Ev.bind (pz l nx _ hl) ?_))
   by_cases c:ct x.f4[j].f1 l 0<0
   ·refine bn c (eP (Ev.now _) ?_);unfold dp;rw[decide_eq_false (by omega)];rfl
   ·refine dj c (eP h ?_)
    unfold dp;rw[decide_eq_true (by omega)];rfl)
 simpa using key
theorem te (l:List aX) (nx:Int) (hl:l.length≤1048576) (hs:∀x∈l,x.f4.length≤1048576):Ev (fun k=>aK.l0 k 0 l nx) (pS l l):=by
 have key:=down (n:=l.length) (P:=fun i=>Ev (fun k=>aK.l0 k (i:Nat) l nx) (pS l (l.drop i))) (by
   apply ba
   simp only[aK.l0,List.drop_length]
   exact dj (by omega) (Ev.now _)) (fun i hi h=>by
   have hrd:af l (i:Int)=l[i]:=getD_at l _ i hi;have hx:=hs _ (List.getElem_mem hi);have hu:=tb l[i].f0 l hs;have hu2:l.length*1048576≤1048576*1048576:=Nat.mul_le_mul_right _ hl;rw[←nT i l.length hi (by omega)]at h
   apply ba
   simp only[aK.l0,hrd];rw[tc l i hi];refine bn (by omega) (bn (by omega) (Ev.bind (xQ l nx _ hl hs (by omega)) ?_))
   by_cases c:((eC l[i].f0 l:Nat):Int)=l[i].f2
   ·refine bn c (eP (td l nx i l[i] _ hl hx h) ?_);rw[decide_eq_true c.symm,Bool.true_and]
   ·refine dj c (eP (Ev.now _) ?_)
    rw[decide_eq_false (fun e=>c e.symm)];rfl)
 simpa using key
theorem wA (l:List aX) (nx:Int) (hl:l.length≤1048576) (hs:∀x∈l,qb x):Ev (fun k=>aK.f k l nx) (kt l nx):=by
 have hA:∀x∈l,gu x:=fun x hx=>⟨(hs x hx).d,(hs x hx).e,(hs x hx).t⟩
 unfold aK.f kt;refine Ev.bind (xO l nx hl hs) ?_
 by_cases c1:nC l nx=true
 ·refine bn c1 (Ev.bind (vm l nx hl hA) ?_);rw[c1,Bool.true_and]
  change Ev (fun k=>aK.j0 k (((ot l).length:Int) !=(l.length:Int)) l nx) _
  apply ba
  simp only[aK.j0]
  by_cases c2:(ot l).length=l.length
  ·refine dj (by simp[c2]) (eP (te l nx hl (fun x hx=>(hs x hx).e)) ?_);rw[decide_eq_true c2,Bool.true_and]
  ·refine bn (by simp;omega) (eP (Ev.now _) ?_);rw[decide_eq_false c2];rfl
 ·refine dj c1 ?_
  apply ba
  simp only[aK.j0];refine bn trivial (eP (Ev.now _) ?_);rw[show nC l nx=false by simpa using c1];rfl
theorem tf (l:List aX) (nx i:Int) (e:List cA) (Z:Bool) (hl:l.length≤1048576) (he:e.length≤1048576) (hfin:Ev (fun k=>bj.l0 k l (l.length:Int) (wrap64 (i+1)) l nx) Z):
  Ev (fun k=>bj.l1 k l (l.length:Int) i e (e.length:Int) 0 l nx) (nn l e&&Z):=by
 have key:=down (n:=e.length) (P:=fun j=>Ev (fun k=>bj.l1 k l (l.length:Int) i e (e.length:Int) (j:Nat) l nx) (nn l (e.drop j)&&Z)) (by
   apply ba
   simp only[bj.l1,List.drop_length]
   exact dj (by omega) hfin) (fun j hj h=>by
   have hrd:al e (j:Int)=e[j]:=getD_at e _ j hj
   apply ba
   simp only[bj.l1,hrd];rw[nT j e.length hj (by omega),rC l e j hj]
   have hp:Ev (fun k=>eH.f k l nx e[j].f1) (ct e[j].f1 l 0):=by unfold eH.f;exact bn (by omega) (Ev.now _)
   refine bn (by omega) (bn (by omega) (bn (by omega) (Ev.bind hp ?_)))
   by_cases c:ct e[j].f1 l 0<0
   ·refine bn c (eP (Ev.now _) ?_);unfold dp;rw[decide_eq_false (by omega)];rfl
   ·refine dj c (eP h ?_)
    unfold dp;rw[decide_eq_true (by omega)];rfl)
 simpa using key
theorem tg (l:List aX) (nx:Int) (hl:l.length≤1048576) (hs:∀x∈l,x.f4.length≤1048576):Ev (fun k=>bj.l0 k l (l.length:Int) 0 l nx) (pS l l):=by
 have key:=down (n:=l.length) (P:=fun i=>Ev (fun k=>bj.l0 k l (l.length:Int) (i:Nat) l nx) (pS l (l.drop i))) (by
   apply ba
   simp only[bj.l0,List.drop_length]
   exact dj (by omega) (Ev.now _)) (fun i hi h=>by
   have hrd:af l (i:Int)=l[i]:=getD_at l _ i hi;have hx:=hs _ (List.getElem_mem hi);have hu:=tb l[i].f0 l hs;have hu2:l.length*1048576≤1048576*1048576:=Nat.mul_le_mul_right _ hl;rw[←nT i l.length hi (by omega)]at h
   apply ba
   simp only[bj.l0,hrd];rw[tc l i hi];refine bn (by omega) (bn (by omega) (bn (by omega) (Ev.bind (xR l nx _ hl hs (by omega)) ?_)))
   by_cases c:l[i].f2=((eC l[i].f0 l:Nat):Int)
   ·refine bn c (eP (tf l nx i l[i].f4 _ hl hx h) ?_);rw[decide_eq_true c,Bool.true_and]
   ·refine dj c (eP (Ev.now _) ?_)
    rw[decide_eq_false c];rfl)
 simpa using key
theorem wB (l:List aX) (nx:Int) (hl:l.length≤1048576) (hs:∀x∈l,qb x):Ev (fun k=>bj.f k l nx) (kt l nx):=by
 have hA:∀x∈l,gu x:=fun x hx=>⟨(hs x hx).d,(hs x hx).e,(hs x hx).t⟩
 unfold bj.f kt;refine Ev.bind (xP l nx hl hs) ?_
 by_cases c1:nC l nx=true
 ·refine bn c1 (Ev.bind (vn l nx hl hA) ?_);rw[c1,Bool.true_and]
  change Ev (fun k=>bj.j0 k (((ot l).length:Int) !=(l.length:Int)) l nx) _
  apply ba
  simp only[bj.j0]
  by_cases c2:(ot l).length=l.length
  ·refine dj (by simp[c2]) (eP (tg l nx hl (fun x hx=>(hs x hx).e)) ?_);rw[decide_eq_true c2,Bool.true_and]
  ·refine bn (by simp;omega) (eP (Ev.now _) ?_);rw[decide_eq_false c2];rfl
 ·refine dj c1 ?_
  apply ba
  simp only[bj.j0];refine bn trivial (eP (Ev.now _) ?_);rw[show nC l nx=false by simpa using c1];rfl
end Go.Proofs.YtlecajlnjmbilaaGreatDoor.Q
namespace Go.Proofs.YtlecajlnjmbilaaGreatDoor.Q
open Go.RowKit Go.Proofs.YtlecajlnjmbilaaGreatDoor.P Go.Proofs.ab.ar Go.Proofs.ab.aH Go.Proofs.ab.aN
theorem nJ (l:List aX) (nx:Int) (hl:l.length≤1048576) (hs:∀x∈l,gu x):Ev (fun k=>cw.f k l nx) (l,nx):=by
 have key:=down (n:=l.length) (P:=fun i=>Ev (fun k=>cw.l0 k l (l.length:Int) (i:Nat) (l.take i) nx) (l,nx)) (by
   apply ba
   simp only[cw.l0,List.take_length]
   exact dj (by omega) (Ev.now _)) (fun i hi h=>by
   have hrd:af l (i:Int)=l[i]:=getD_at l _ i hi
   apply ba
   simp only[cw.l0,hrd,sP l[i] (hs _ (List.getElem_mem hi)),Option.bind_some];rw[nT i l.length hi (by omega)];refine bn (by omega) (bn (by omega) (bn (by omega) (bn (by rw[List.length_take];omega) ?_)));rw[List.take_succ_eq_append_getElem hi]at h
   exact h)
 simpa [cw.f]using key
end Go.Proofs.YtlecajlnjmbilaaGreatDoor.Q
namespace Go.Proofs.YtlecajlnjmbilaaGreatDoor.Q
open Go.RowKit Go.Proofs.YtlecajlnjmbilaaGreatDoor.P Go.Proofs.ab.ar Go.Proofs.ab.aH Go.Proofs.ab.aN
theorem jy (l:List aX) (nx:Int) (hl:l.length≤1048576) (hs:∀x∈l,gu x):Ev (fun k=>cr.f k l nx) (l,nx):=by
 have key:=down (n:=l.length) (P:=fun i=>Ev (fun k=>cr.l0 k (i:Nat) l nx (l.take i) nx) (l,nx)) (by
   apply ba
   simp only[cr.l0,List.take_length]
   exact dj (by omega) (Ev.now _)) (fun i hi h=>by
   have hrd:af l (i:Int)=l[i]:=getD_at l _ i hi
   apply ba
   simp only[cr.l0,hrd,qF l[i] (hs _ (List.getElem_mem hi)),Option.bind_some];rw[nT i l.length hi (by omega)];refine bn (by omega) (bn (by omega) (bn (by rw[List.length_take];omega) ?_));rw[List.take_succ_eq_append_getElem hi]at h
   exact h)
 simpa [cr.f]using key
def lT (ino:Int):List aX→Nat
 |[]=>0
 |y::l=>if y.f0<ino then lT ino l+1 else 0
theorem th (ino:Int) (l:List aX):∀j:Nat,ct ino l j<0→∀y∈l,y.f0≠ino:=by
 induction l with
 |nil=>intro j _ y hy;cases hy
 |cons x l ih=>
  intro j h y hy;rw[ct]at h
  split at h
  ·omega
  ·rcases List.mem_cons.1 hy with rfl|hy
   ·assumption
   ·exact ih _ h y hy
theorem abx (ino:Int) (l:List aX):(∀y∈l,y.f0≠ino)→∀j:Nat,(vT ino l j= -1∧lT ino l=l.length)∨(vT ino l j=((j+lT ino l:Nat):Int)∧lT ino l<l.length):=by
 induction l with
 |nil=>intro _ j;exact .inl ⟨rfl,rfl⟩
 |cons x l ih=>
  intro h j;have hx:=h x (List.mem_cons_self ..);rw[vT,lT]
  by_cases c:ino<x.f0
  ·rw[if_pos c,if_neg (by omega)];exact .inr ⟨by simp,by simp⟩
  ·rw[if_neg c,if_pos (by omega)];rcases ih (fun y hy=>h y (List.mem_cons_of_mem _ hy)) (j+1)with⟨h1,h2⟩|⟨h1,h2⟩
   ·exact .inl ⟨h1,by rw[h2];rfl⟩
   ·exact .inr ⟨by rw[h1];congr 1;omega,by simp only[List.length_cons];omega⟩
theorem aby (ino:Int) (l:List aX) (h:ct ino l 0<0):gtP ino l=lT ino l:=by
 unfold gtP;rcases abx ino l (th ino l 0 h) 0 with⟨h1,h2⟩|⟨h1,h2⟩
 ·rw[h1,if_pos (by omega),h2]
 ·rw[h1,if_neg (by omega)];omega
theorem abz (ino:Int) (l:List aX):lT ino l≤l.length:=by
 induction l with
 |nil=>exact Nat.le_refl _
 |cons x l ih=>rw[lT,List.length_cons];split<;>omega
theorem nF (x:aX) (l:List aX):(kI x l).length≤l.length+1:=by
 unfold kI
 split
 ·rw[List.length_set];omega
 ·simp only[List.length_append,List.length_take,List.length_drop,List.length_singleton];omega
theorem qI (x y:aX) (l:List aX) (h:y∈kI x l):y=x∨y∈l:=by
 unfold kI at h
 split at h
 ·rcases List.mem_or_eq_of_mem_set h with h|h
  ·exact .inr h
  ·exact .inl h
 ·rcases List.mem_append.1 h with h|h
  ·rcases List.mem_append.1 h with h|h
   ·exact .inr (List.mem_of_mem_take h)
   ·exact .inl (by simpa using h)
  ·exact .inr (List.mem_of_mem_drop h)
theorem nR (a b:List aX):cX (a++b)=cX a+cX b:=by unfold cX;rw[List.map_append,List.sum_append]
theorem ti (x:aX) (l:List aX):cX (kI x l)≤cX l+nq x:=by
 unfold kI
 split
 ·generalize (ct x.f0 l 0).toNat=i;rw[List.set_eq_take_append_cons_drop]
  split
  ·have h:cX l=cX (l.take i)+cX (l.drop i):=by rw[←nR,List.take_append_drop]
   have h2:cX (l.drop (i+1))≤cX (l.drop i):=by
    rcases Nat.lt_or_ge i l.length with hi|hi
    ·rw[List.drop_eq_getElem_cons hi];unfold cX;rw[List.map_cons,List.sum_cons];omega
    ·rw[List.drop_of_length_le hi,List.drop_of_length_le (by omega)];exact Nat.le_refl _
   have h3:cX (x::l.drop (i+1))=nq x+cX (l.drop (i+1)):=by unfold cX;simp
   rw[nR,h3]
   omega
  ·omega
 ·generalize gtP x.f0 l=i
  have h:cX l=cX (l.take i)+cX (l.drop i):=by rw[←nR,List.take_append_drop]
  rw[nR,nR]
  have:cX [x]=nq x:=by unfold cX;simp
  omega
theorem wC (l:List aX) (nx:Int) (x:aX) (hl:l.length≤1048576) (hs:∀x∈l,gu x) (hx:gu x):Ev (fun k=>gr.f k l nx x.f0 x.f1 x.f2 x.f3 x.f4 x.f5) (kI x l,nx):=by
 unfold gr.f;refine Ev.bind (nJ l nx hl hs) ?_;simp only[sP x hx,Option.bind_some];exact bn (by omega) (Ev.now _)
theorem wD (l:List aX) (nx:Int) (x:aX) (hl:l.length≤1048576) (hs:∀x∈l,gu x) (hx:gu x):Ev (fun k=>bf.f k l nx x.f0 x.f1 x.f2 x.f3 x.f4 x.f5) (kI x l,nx):=by
 have hr:=la x.f0 l 0;unfold bf.f;refine Ev.bind (jy l nx hl hs) (Ev.bind (pz l nx x.f0 hl) ?_)
 by_cases c:0≤ct x.f0 l 0
 ·simp only[qF x hx,Option.bind_some];refine bn c (bn c (bn (by omega) (eP (Ev.now _) ?_)));unfold kI;rw[if_pos c]
 ·refine dj c ?_
  have hp:kI x l=l.take (lT x.f0 l)++[x]++l.drop (lT x.f0 l):=by
   unfold kI;rw[if_neg c,aby _ _ (by omega)]
  rw[hp];have hle:=abz x.f0 l
  have key:=down (n:=l.length) (P:=fun i=>i+lT x.f0 (l.drop i)=lT x.f0 l→Ev (fun k=>bf.l0 k (i:Nat) l nx x.f0 x.f1 x.f2 x.f3 x.f4 x.f5 l nx) (l.take (lT x.f0 l)++[x]++l.drop (lT x.f0 l),nx)) (fun hi=>by
    rw[List.drop_length]at hi
    have hi':l.length=lT x.f0 l:=by rw[←hi];rfl
    apply ba
    simp only[bf.l0,qF x hx,Option.bind_some,Int.toNat_natCast,List.nil_append,List.length_nil];refine dj (by omega) (bn (by omega) (bn (by omega) (bn (by rw[List.length_take];omega) (bn (by rw[List.length_take];omega) (bn (by simp only[List.length_append,List.length_take,List.length_drop,List.length_singleton];omega) (eP (Ev.now _) ?_))))))
    rw[←hi']) (fun i hi h hd=>by
    have hrd:af l (i:Int)=l[i]:=getD_at l _ i hi;rw[List.drop_eq_getElem_cons hi,lT]at hd
    apply ba
    simp only[bf.l0,hrd,qF x hx,Option.bind_some,Int.toNat_natCast,List.nil_append,List.length_nil];rw[nT i l.length hi (by omega)];refine bn (by omega) (bn (by omega) ?_)
    by_cases cc:l[i].f0<x.f0
    ·rw[if_pos cc]at hd;exact bn cc (h (by omega))
    ·rw[if_neg cc]at hd;refine dj cc (bn (by omega) (bn (by rw[List.length_take];omega) (bn (by rw[List.length_take];omega) (bn (by simp only[List.length_append,List.length_take,List.length_drop,List.length_singleton];omega) (eP (Ev.now _) ?_)))))
     rw[show i=lT x.f0 l by omega])
  exact key (by simp)
end Go.Proofs.YtlecajlnjmbilaaGreatDoor.Q
namespace Go.Proofs.YtlecajlnjmbilaaGreatDoor.Q
open Go.RowKit Go.Proofs.YtlecajlnjmbilaaGreatDoor.P Go.Proofs.ab.ar Go.Proofs.ab.aH Go.Proofs.ab.aN
end Go.Proofs.YtlecajlnjmbilaaGreatDoor.Q
namespace Go.Proofs.YtlecajlnjmbilaaGreatDoor.Q
open Go.RowKit Go.Proofs.YtlecajlnjmbilaaGreatDoor.P Go.Proofs.ab.ar Go.Proofs.ab.aH Go.Proofs.ab.aN
theorem tj (l:List ByteArray) (h:l≠[]):(⟨#[47]⟩++pd l:ByteArray)=pj l:=by
 induction l with
 |nil=>exact absurd rfl h
 |cons x l ih=>
  cases l with
  |nil=>
   simp only[pj,yD]
   congr 1
   simp[pd,Lib.join]
  |cons y l=>
   have:=ih (by simp);rw[pj,←this]
   apply ByteArray.ext
   simp[pd,Lib.join,ByteArray.data_append]
theorem Aj (l:List ByteArray) (hl:l.length≤1048576) (hz:jr l≤1048576):Ev (fun k=>fL.f k l) (if fy l=true then⟨#[47]⟩++pd l else⟨#[]⟩):=by
 have hs:∀x∈l,x.size≤1048576:=fun x hx=>Nat.le_trans (tV l x hx) hz
 have hj:(pd l).size≤3000000:=by
  cases l with
  |nil=>decide
  |cons x l=>
   have h1:=tj (x::l) (by simp);have h2:=sV (x::l);rw[←h1,ByteArray.size_append]at h2
   omega
 have hn:Ev (fun k=>fm.f k l) (fy l):=by
  unfold fm.f fy
  by_cases c:l.length≤30
  ·obtain⟨r,h1,h2⟩:=yC l hs 0;refine bn c (Ev.bind h1 (eP (Ev.now _) ?_));rw[h2];simp[c]
  ·exact dj c (eP (Ev.now _) (by simp[c]))
 unfold fL.f;refine Ev.bind hn ?_
 by_cases c:fy l=true
 ·exact bn c (bn ⟨by omega,by omega⟩ (eP (Ev.now _) (by rw[if_pos c])))
 ·exact dj c (eP (Ev.now _) (by rw[if_neg c]))
theorem Ak (l:List ByteArray) (hl:l.length≤1048576) (hz:jr l≤1048576):Ev (fun k=>cP.f k l) (if l.length=0 then⟨#[47]⟩else if fy l=true then pj l else⟨#[]⟩):=by
 have hs:∀x∈l,x.size≤1048576:=fun x hx=>Nat.le_trans (tV l x hx) hz
 unfold cP.f
 by_cases c0:l.length=0
 ·exact bn (by omega) (eP (Ev.now _) (by rw[if_pos c0]))
 ·refine dj (by omega) ?_;rw[if_neg c0]
  by_cases c:l.length≤30
  ·have key:=ad8 (n:=l.length) (P:=fun i=>∀acc:ByteArray,acc.size+(l.length-i)+jr (l.drop i)≤3000000→Ev (fun k=>cP.l0 k l acc (i:Nat)) (if(l.drop i).all gn=true then acc++pj (l.drop i)else⟨#[]⟩)) (by
     intro acc _
     apply ba
     simp only[cP.l0];refine dj (by omega) (eP (Ev.now _) ?_);rw[List.drop_length]
     simp[pj,yD]) (by
     intro i hi ih acc hb;have hd:=xU l i hi;have hx:=mw l[i] (by have:=hs l[i] (List.getElem_mem hi);omega)
     have h1:(acc++(⟨#[47]⟩:ByteArray)).size=acc.size+1:=by rw[ByteArray.size_append];rfl
     have ih:=ih ((acc++(⟨#[47]⟩:ByteArray))++l[i]) (by rw[ByteArray.size_append,h1];omega)
     apply ba
     simp only[cP.l0,rdS l i hi];rw[adz i l.length hi (by omega),List.drop_eq_getElem_cons hi,List.all_cons,pj];refine bn (by omega) (bn (by omega) (Ev.bind hx ?_))
     by_cases cn:gn l[i]=true
     ·refine bn cn (dj (by omega) (bn (by omega) (bn (by rw[h1];omega) (eP ih ?_))));rw[cn,Bool.true_and]
      split
      ·simp only[ByteArray.append_assoc]
      ·rfl
     ·exact dj cn (eP (Ev.now _) (by simp[cn])))
   refine eP (key ⟨#[]⟩ (by simp only[List.drop_zero];have:(⟨#[]⟩:ByteArray).size=0:=rfl;omega)) ?_;simp only[List.drop_zero,acm,fy,c,decide_true,Bool.and_true]
  ·have hi:0<l.length:=by omega
   have hx:=mw l[0] (by have:=hs l[0] (List.getElem_mem hi);omega);have hr:jb ByteArray.empty l (0:Int)=l[0]:=rdS l 0 hi
   apply ba
   simp only[cP.l0,hr];refine bn (by omega) (bn (by omega) (Ev.bind hx ?_))
   have hgp:fy l=false:=by simp[fy,c]
   rw[hgp]
   by_cases cn:gn l[0]=true
   ·exact bn cn (bn (by omega) (Ev.now _))
   ·exact dj cn (Ev.now _)
end Go.Proofs.YtlecajlnjmbilaaGreatDoor.Q
namespace Go.Proofs.YtlecajlnjmbilaaGreatDoor.Q
open Go.RowKit Go.Proofs.YtlecajlnjmbilaaGreatDoor.P Go.Proofs.ab.ar Go.Proofs.ab.aH Go.Proofs.ab.aN
theorem ya (l:List ByteArray) (hl:l.length≤1048576) (hz:jr l≤1048576):Ev (fun k=>fL.f k l) (sX l):=by
 refine eP (Aj l hl hz) ?_;unfold sX
 by_cases c:l.length=0
 ·obtain rfl:=List.eq_nil_of_length_eq_zero c
  rfl
 ·rw[if_neg c]
  split
  ·rw[tj l (fun h=>c (by rw[h];rfl))]
  ·rfl
end Go.Proofs.YtlecajlnjmbilaaGreatDoor.Q
namespace Go.Proofs.YtlecajlnjmbilaaGreatDoor.Q
open Go.RowKit Go.Proofs.YtlecajlnjmbilaaGreatDoor.P Go.Proofs.ab.ar Go.Proofs.ab.aH Go.Proofs.ab.aN
def eM (s:ByteArray):ByteArray×ByteArray×Bool:=
 if(fv s).2=true then(if(fv s).1.length=0 then(⟨#[]⟩,⟨#[]⟩,false)else(sX ((fv s).1.take ((fv s).1.length-1)),(fv s).1.getD ((fv s).1.length-1) ⟨#[]⟩,true))else(⟨#[]⟩,⟨#[]⟩,false)
theorem wE (s:ByteArray) (hs:s.size≤1048576):Ev (fun k=>df.f k s) (eM s):=by
 unfold df.f eM;refine Ev.bind (qc s hs) ?_;obtain⟨h1,h2⟩:=nD s;generalize fv s=p at*;refine zn (fun c=> ?_) (fun _=>Ev.now _)
 by_cases c0:p.1.length=0
 ·exact bn (by omega) (eP (Ev.now _) (by rw[if_pos c0]))
 ·have ht:=sW p.1 (p.1.length-1)
  have hw:wrap64 ((p.1.length:Int)-1)=((p.1.length-1:Nat):Int):=by rw[ly (by omega) (by omega)];omega
  simp only[hw,Int.toNat_natCast];refine dj (by omega) (bn (by omega) (bn (by omega) (Ev.bind (ya _ (by rw[List.length_take];omega) (by omega)) (bn (by omega) (eP (Ev.now _) ?_)))));rw[if_neg c0]
  rfl
theorem rD (s:ByteArray) (hs:s.size≤1048576):Ev (fun k=>eB.f k s) (eM s):=by
 unfold eB.f eM;refine Ev.bind (qd s hs) ?_;obtain⟨h1,h2⟩:=nD s;generalize fv s=p at*;refine zn (fun c=> ?_) (fun _=>Ev.now _)
 by_cases c0:p.1.length=0
 ·exact bn (by omega) (eP (Ev.now _) (by rw[if_pos c0]))
 ·have ht:=sW p.1 (p.1.length-1)
  have hw:wrap64 ((p.1.length:Int)-1)=((p.1.length-1:Nat):Int):=by rw[ly (by omega) (by omega)];omega
  simp only[hw,Int.toNat_natCast];refine dj (by omega) (bn (by omega) (bn (by omega) (Ev.bind (Ak _ (by rw[List.length_take];omega) (by omega)) (bn (by omega) (eP (Ev.now _) ?_)))));rw[if_neg c0]
  rfl
end Go.Proofs.YtlecajlnjmbilaaGreatDoor.Q
namespace Go.Proofs.YtlecajlnjmbilaaGreatDoor.Q
open Go.RowKit Go.Proofs.YtlecajlnjmbilaaGreatDoor.P Go.Proofs.ab.ar Go.Proofs.ab.aH Go.Proofs.ab.aN
theorem qb.a {x:aX}(h:qb x):gu x:=⟨h.d,h.e,h.t⟩
def mc (T:List aX) (nx:Int) (ps:List ByteArray):Bool:=ps.all (fun p=>(fv p).2)&&kt T nx
theorem wF (T:List aX) (nx:Int) (ps:List ByteArray) (hT:T.length≤1048576) (hs:∀x∈T,qb x) (hp:∀p∈ps,p.size≤1048576) (hn:ps.length≤1048576):Ev (fun k=>eZ.f k T nx ps) (mc T nx ps):=by
 have key:=down (n:=ps.length) (P:=fun i=>Ev (fun k=>eZ.l0 k ps (ps.length:Int) (i:Nat) T nx) ((ps.drop i).all (fun p=>(fv p).2)&&kt T nx)) (by
   apply ba
   simp only[eZ.l0,List.drop_length]
   exact dj (by omega) (Ev.bind (wB T nx hT hs) (eP (Ev.now _) (by simp)))) (fun i hi h=>by
   have hrd:jb ByteArray.empty ps (i:Int)=ps[i]:=getD_at ps _ i hi
   apply ba
   simp only[eZ.l0,hrd];rw[nT i ps.length hi (by omega),List.drop_eq_getElem_cons hi,List.all_cons];refine bn (by omega) (bn (by omega) (bn (by omega) (Ev.bind (qc _ (hp _ (List.getElem_mem hi))) ?_)))
   by_cases c:(fv ps[i]).2=true
   ·exact bn c (eP h (by rw[c,Bool.true_and]))
   ·exact dj c (eP (Ev.now _) (by rw[show(fv ps[i]).2=false by simpa using c];rfl)))
 simpa [eZ.f,mc]using key
def fl (T:List aX) (p:ByteArray):aX×ByteArray×Int:=
 let q:=eM p
 let s:=fp T q.1
 if s.2=0 then(if s.1.f1=2 then(s.1,q.2.1,0)else(nr,⟨#[]⟩,3))else(nr,⟨#[]⟩,s.2)
theorem adA (l:List ByteArray) (h:fy l=true):jr l≤420∧l.length≤30:=by
 unfold fy at h;simp only[Bool.and_eq_true,decide_eq_true_eq,List.all_eq_true]at h;obtain⟨h1,h2⟩:=h
 have key:∀m:List ByteArray,(∀x∈m,gn x=true)→jr m≤14*m.length:=by
  intro m
  induction m with
  |nil=>intro _;simp[jr]
  |cons x m ih=>
   intro hm;have:=(acn x (hm x (List.mem_cons_self ..))).2.2;have:=ih (fun y hy=>hm y (List.mem_cons_of_mem _ hy));simp only[jr,List.map_cons,List.sum_cons,List.length_cons]at this⊢
   omega
 have:=key l h1
 omega
theorem wG (l:List ByteArray):(sX l).size≤1048576:=by
 by_cases c:fy l=true
 ·rw[xX l c];have:=adA l c;omega
 ·unfold sX;split
  ·decide
  ·decide
theorem qJ (p:ByteArray):(eM p).1.size≤1048576:=by
 unfold eM
 split
 ·split
  ·decide
  ·exact wG _
 ·decide
def yG (s:aX×ByteArray×Int):Int×Int×Int×List Int×List cA×List eu×ByteArray×Int:=(s.1.f0,s.1.f1,s.1.f2,s.1.f3,s.1.f4,s.1.f5,s.2.1,s.2.2)
theorem Al (T:List aX) (nx:Int) (p:ByteArray) (hT:T.length≤1048576) (hs:∀x∈T,gu x) (hp:p.size≤1048576):Ev (fun k=>iu.f k T nx p) (yG (fl T p)):=by
 unfold iu.f;refine Ev.bind (wE p hp) (Ev.bind (tY T nx _ hT hs (qJ p)) ?_);simp only[fl,wP]
 by_cases c1:(fp T (eM p).1).2=0
 ·refine bn c1 ?_;rw[if_pos c1]
  by_cases c2:(fp T (eM p).1).1.f1=2
  ·exact bn c2 (eP (Ev.now _) (by rw[if_pos c2];rfl))
  ·exact dj c2 (eP (Ev.now _) (by rw[if_neg c2];rfl))
 ·exact dj c1 (eP (Ev.now _) (by rw[if_neg c1];rfl))
theorem pe (T:List aX) (p:ByteArray) (hs:∀x∈T,gu x):gu (fl T p).1:=by
 have h0:gu nr:=⟨by decide,by decide,by decide⟩;unfold fl;dsimp only
 split
 ·split
  ·exact nE T _ hs
  ·exact h0
 ·exact h0
theorem t_ (T:List aX) (p:ByteArray):(fp T p).1=nr∨(fp T p).1∈T:=by
 unfold fp
 split
 ·split
  ·right
   rename_i h1 h2
   show fh T (lA T p).1∈T
   unfold fh;unfold dp at h2;have h2:=of_decide_eq_true h2;rw[if_neg (by omega)];rcases la (lA T p).1 T 0 with h|h
   ·omega
   ·obtain⟨n,hn⟩:∃n:Nat,ct (lA T p).1 T 0=n:=⟨(ct (lA T p).1 T 0).toNat,by omega⟩;rw[hn]at h⊢;have hrd:af T (n:Int)=T[n]'(by omega):=getD_at T _ n (by omega);rw[hrd];exact List.getElem_mem _
  ·exact .inl rfl
 ·exact .inl rfl
def oN (nm:ByteArray) (ino:Int) (l:List cA):List cA:=l.take (oe nm l)++[⟨nm,ino⟩]++l.drop (oe nm l)
theorem yH (nm:ByteArray) (l:List cA):oe nm l≤l.length:=by
 unfold oe;rcases vX nm l 0 with h|⟨i,h,hi⟩
 ·rw[h];simp
 ·rw[h];split<;>omega
theorem nz (nm:ByteArray) (ino:Int) (l:List cA):(oN nm ino l).length=l.length+1:=by
 have:=yH nm l;simp only[oN,List.length_append,List.length_take,List.length_drop,List.length_singleton]
 omega
def qy (x:aX) (e:List cA):aX:=⟨x.f0,x.f1,x.f2,x.f3,e,x.f5⟩
def ry (x:aX) (n:Int):aX:=⟨x.f0,x.f1,n,x.f3,x.f4,x.f5⟩
theorem yb (x:aX) (nm:ByteArray) (T:List aX) (nx ino:Int) (hT:T.length≤1048576) (hs:∀x∈T,gu x) (hx:gu x) (he:x.f4.length<1048576):
  Ev (fun k=>ia.f k x.f0 x.f1 x.f2 x.f3 x.f4 x.f5 nm T nx ino) (kI (qy x (oN nm ino x.f4)) T,nx):=by
 have b:cG.f x.f4=some x.f4:=by unfold cG.f;have:=hx.e;simp;omega
 unfold ia.f;simp only[b,Option.bind_some];refine bn ⟨yH _ _,by omega,by omega⟩ ?_;exact wC T nx (qy x (oN nm ino x.f4)) hT hs ⟨hx.d,by show(oN nm ino x.f4).length≤1048576;rw[nz];omega,hx.t⟩
def iv (T:List aX) (p:ByteArray):aX×Int:=if(fp T p).2=0∧(fp T p).1.f1≠1 then((fp T p).1,3)else fp T p
theorem Am (T:List aX) (nx:Int) (p:ByteArray) (hT:T.length≤1048576) (hs:∀x∈T,gu x) (hp:p.size≤1048576):Ev (fun k=>gz.f k T nx p) (wP (iv T p)):=by
 unfold gz.f;refine Ev.bind (tY T nx p hT hs hp) ?_;unfold iv;simp only[wP]
 by_cases c1:(fp T p).2=0
 ·refine bn c1 ?_
  by_cases c2:(fp T p).1.f1=1
  ·exact bn c2 (eP (Ev.now _) (by rw[if_neg (fun h=>h.2 c2)]))
  ·exact dj c2 (eP (Ev.now _) (by rw[if_pos ⟨c1,c2⟩]))
 ·exact dj c1 (eP (Ev.now _) (by rw[if_neg (fun h=>c1 h.1)]))
theorem pf (T:List aX) (p:ByteArray) (hs:∀x∈T,gu x):gu (iv T p).1:=by
 unfold iv
 split
 ·exact nE T p hs
 ·exact nE T p hs
end Go.Proofs.YtlecajlnjmbilaaGreatDoor.Q
namespace Go.Proofs.YtlecajlnjmbilaaGreatDoor.Q
open Go.RowKit Go.Proofs.YtlecajlnjmbilaaGreatDoor.P Go.Proofs.ab.ar Go.Proofs.ab.aH Go.Proofs.ab.aN
structure Bd (Y:List aX):Prop where
 len:Y.length≤1048577
 a:∀y∈Y,gu y
 w:cX Y≤4611686018427380000
theorem tk (x:aX) (h:gu x):nq x≤5242883:=by
 have h1:=h.d;have h2:=h.e;have h3:=h.t;unfold nq inW
 omega
theorem Bd.of (T:List aX) (hT:T.length≤1048576) (hA:∀x∈T,gu x) (hw:cX T≤1000000000000):Bd T:=⟨by omega,hA,by omega⟩
theorem Bd.filter {Y:List aX}(h:Bd Y) (f:aX→Bool):Bd (Y.filter f):=
 ⟨Nat.le_trans (List.length_filter_le ..) h.len,fun y hy=>h.a y (List.mem_filter.1 hy).1,Nat.le_trans (uV f Y) h.w⟩
theorem Bd.set2 (T:List aX) (x y:aX) (hT:T.length≤1048575) (hA:∀x∈T,gu x) (hw:cX T≤1000000000000) (hx:gu x) (hy:gu y):Bd (kI y (kI x T)):=by
 have h1:=ti x T;have h2:=tk x hx;have h3:=ti y (kI x T);have h4:=tk y hy;have h5:=nF x T;have h6:=nF y (kI x T);refine⟨by omega,fun z hz=> ?_,by omega⟩;rcases qI _ _ _ hz with rfl|hz
 ·exact hy
 ·rcases qI _ _ _ hz with rfl|hz
  ·exact hx
  ·exact hA z hz
theorem acd (T:List aX) (nx:Int) (Y:List aX) (m c:Int) (hT:T.length≤1048576) (hA:∀x∈T,gu x) (hw:cX T≤1000000000000) (hY:Bd Y):
  Ev (fun k=>(gl.f k Y m Y m).bind fun e1=>(gl.f k T nx T nx).bind fun e2=>(eI.f k T 1).bind fun mt=>(eI.f k Y 1).bind fun mm=>(fz.f k mm.2 m 1).bind fun q=>
   if c=c∧e1=true∧e2=true∧¬mt.1<0∧¬q<0∧q=mm.1∧mm.2.length=Y.length then some true else none) true:=by
 have hl2:=hY.len;have hw2:=hY.w;obtain⟨mt,m1,_,_,_⟩:=abn T 1 hT (by omega) (by omega);obtain⟨mg,m2,k2,k3,hh⟩:=tU Y 1 hl2 (by omega) (by omega);have m3:=zy mg m 1 (by omega) (by omega) (by omega) hh;rw[k3]at m3;refine Ev.bind (sN Y m (by omega) (sQ hY.a)) (Ev.bind (sN T nx (by omega) (sQ hA)) (Ev.bind m1 (Ev.bind m2 (Ev.bind m3 (bn ?_ (Ev.now _))))));exact⟨rfl,rfl,rfl,by dsimp only;omega,by omega,rfl,k2⟩
theorem aba (l:List nL) (h:∀x∈l,ach x):∀x∈l.map ks,qb x:=by
 intro x hx;obtain⟨y,hy,rfl⟩:=List.mem_map.1 hx;have hS:=h y hy;refine⟨hS.d,by simpa [ks]using hS.e,by simpa [ks]using hS.t,fun z hz=> ?_,fun z hz=> ?_⟩
 ·obtain⟨u,hu,rfl⟩:=List.mem_map.1 hz;exact hS.en u hu
 ·obtain⟨u,hu,rfl⟩:=List.mem_map.1 hz;exact(hS.tn u hu).1
end Go.Proofs.YtlecajlnjmbilaaGreatDoor.Q
namespace Go.Proofs.YtlecajlnjmbilaaGreatDoor.Q
open Go.RowKit Go.Proofs.YtlecajlnjmbilaaGreatDoor.P Go.Proofs.ab.ar Go.Proofs.ab.aH Go.Proofs.ab.aN
section
variable (ex:Int→Bool) (kids:Int→List Int)
def below:Nat→Int→List Int
 |0,_=>[]
 |k+1,x=>if kids x=[]then []else x::(kids x).flatMap (below k)
inductive An (c:Int):Int→Prop
 |refl:An c c
 |step {p x:Int}:An c p→x∈kids p→An c x
theorem An.first{c y x:Int}(hy:y∈kids c) (h:An kids y x):An kids c x:=by
 induction h with
 |refl=>exact .step .refl hy
 |step _ hx ih=>exact .step ih hx
variable {ex kids}
end
end Go.Proofs.YtlecajlnjmbilaaGreatDoor.Q
namespace Go.Proofs.YtlecajlnjmbilaaGreatDoor.Q
open Go.RowKit Go.Proofs.YtlecajlnjmbilaaGreatDoor.P Go.Proofs.ab.ar Go.Proofs.ab.aH Go.Proofs.ab.aN
theorem q_ (n:Int) (l:List aX):∀i:Nat,ct n l i= -1∨∃j,∃h:j<l.length,ct n l i=((i+j:Nat):Int)∧l[j].f0=n:=by
 induction l with
 |nil=>intro i;exact .inl rfl
 |cons x l ih=>
  intro i;rw[ct]
  split
  ·rename_i h;exact .inr ⟨0,by simp,by simp,h⟩
  ·rcases ih (i+1)with h|⟨j,hj,h,e⟩
   ·exact .inl h
   ·exact .inr ⟨j+1,by simp;omega,by rw[h];congr 1;omega,by simpa using e⟩
theorem lU (l:List aX) (n:Int) (h:dp l n=true):fh l n∈l∧(fh l n).f0=n:=by
 unfold dp at h;have h:=of_decide_eq_true h;rcases q_ n l 0 with g|⟨j,hj,g,e⟩
 ·omega
 ·unfold fh;rw[if_neg (by omega),g]
  have:af l (((0+j:Nat):Int))=l[j]:=by rw[Nat.zero_add];exact getD_at l _ j hj
  rw[this];exact⟨List.getElem_mem hj,e⟩
theorem abA (nx:Int) (l:List aX):∀p,kJ nx p l=true→∀x∈l,pC x=true:=by
 induction l with
 |nil=>intro _ _ x hx;simp at hx
 |cons y l ih=>
  intro p h x hx;simp only[kJ,Bool.and_eq_true]at h;rcases List.mem_cons.1 hx with rfl|hx
  ·exact h.1.1.1
  ·exact ih _ h.2 x hx
theorem Ao (es:List cA):∀p,me p es=true→∀e∈es,2≤e.f1∧gn e.f0=true:=by
 induction es with
 |nil=>intro _ _ x hx;simp at hx
 |cons y l ih=>
  intro p h x hx;simp only[me,Bool.and_eq_true,decide_eq_true_eq]at h;rcases List.mem_cons.1 hx with rfl|hx
  ·exact⟨h.1.1.2.1,h.1.1.1⟩
  ·exact ih _ h.2 x hx
structure abB (l:List aX):Prop where
 len:l.length≤30
 ok:∀x∈l,pC x=true
 lk:∀x∈l,x.f2=(eC x.f0 l:Int)
 en:∀x∈l,∀e∈x.f4,dp l e.f1=true
 rt:dp l 1=true
 re:(wQ (dp l) (fq l) l.length [1]).length=l.length
theorem lQ (l:List aX) (nx:Int) (h:kt l nx=true):abB l:=by
 simp only[kt,nC,Bool.and_eq_true,decide_eq_true_eq]at h;obtain⟨⟨⟨h1,_⟩,h2,_⟩,h3,h4⟩:=h
 have ht:∀x∈l,x.f2=(eC x.f0 l:Int)∧nn l x.f4=true:=by
  intro x hx;have:=List.all_eq_true.1 h4 x hx
  simpa using this
 have hr:dp l 1=true:=by
  apply Classical.byContradiction
  intro hn;unfold ot at h3;rw[if_neg hn]at h3;simp at h3;omega
 refine⟨h1.2,abA nx l none h2,fun x hx=>(ht x hx).1,fun x hx e he=>List.all_eq_true.1 (ht x hx).2 e he,hr,?_⟩;unfold ot at h3
 rwa [if_pos hr]at h3
theorem nP (x:aX) (h:pC x=true):x.f4.length≤10∧(∀e∈x.f4,2≤e.f1∧gn e.f0=true)∧(x.f1=2→x.f2≤1)∧(x.f1≠2→x.f4=[]):=by
 simp only[pC,im,pg,Bool.and_eq_true,decide_eq_true_eq]at h;obtain⟨⟨⟨_,he⟩,_⟩,hk⟩:=h;refine⟨he.2,Ao _ _ he.1,fun h2=> ?_,fun h2=> ?_⟩
 ·unfold kindOk at hk;rw[if_neg (by omega),if_pos h2]at hk;simp only[Bool.and_eq_true,decide_eq_true_eq]at hk;exact hk.2
 ·unfold kindOk at hk
  by_cases c:x.f1=1
  ·rw[if_pos c]at hk;exact List.eq_nil_of_length_eq_zero (by simpa using hk)
  ·rw[if_neg c,if_neg h2]at hk
   cases hk
theorem abB.kids {l:List aX}(t:abB l) (n:Int) (h:dp l n=true):fq l n=(fh l n).f4.map (·.f1):=by
 unfold fq
 split
 ·rfl
 ·rename_i c
  have:=(nP _ (t.ok _ (lU l n h).1)).2.2.2 (fun e=>c ⟨h,e⟩);rw[this];rfl
theorem abC (l:List aX) (n:Int) (h:fq l n≠[]):dp l n=true∧(fh l n).f1=2:=by
 unfold fq at h
 split at h
 ·assumption
 ·exact absurd rfl h
theorem abD (l:List aX) (n x:Int) (h:x∈fq l n):(dp l n=true∧(fh l n).f1=2)∧x∈(fh l n).f4.map (·.f1):=by
 have hn:=abC l n (List.ne_nil_of_mem h);unfold fq at h;rw[if_pos hn]at h;exact⟨hn,h⟩
end Go.Proofs.YtlecajlnjmbilaaGreatDoor.Q
namespace Go.Proofs.YtlecajlnjmbilaaGreatDoor.Q
open Go.RowKit Go.Proofs.YtlecajlnjmbilaaGreatDoor.P Go.Proofs.ab.ar Go.Proofs.ab.aH Go.Proofs.ab.aN
structure yI (l:List aX) (nx:Int):Prop where
 n1:1≤l.length
 n30:l.length≤30
 x:2≤nx∧nx≤1000
 ok:∀x∈l,pC x=true
 lt:∀x∈l,x.f0<nx
 st:(l.map (·.f0)).Pairwise (·<·)
 hd:∃x∈l,x.f0=1∧x.f1=2
 lk:∀x∈l,x.f2=(eC x.f0 l:Int)
 en:∀x∈l,∀e∈x.f4,dp l e.f1=true
 re:∀x∈l,An (fq l) 1 x.f0
theorem wH (nx:Int) (l:List aX):∀p,kJ nx p l=true↔((∀x∈l,pC x=true∧x.f0<nx)∧(∀q,p=some q→∀x∈l,q<x.f0)∧(l.map (·.f0)).Pairwise (·<·)):=by
 induction l with
 |nil=>intro p;simp[kJ]
 |cons y l ih=>
  intro p;simp only[kJ,Bool.and_eq_true,decide_eq_true_eq,ih]
  constructor
  ·rintro⟨⟨⟨h1,h2⟩,h3⟩,h4,h5,h6⟩;have h5:=h5 y.f0 rfl;refine⟨fun x hx=> ?_,fun q hq x hx=> ?_,?_⟩
   ·rcases List.mem_cons.1 hx with rfl|hx
    ·exact⟨h1,h2⟩
    ·exact h4 x hx
   ·subst hq
    have hy:q<y.f0:=by simpa [above]using h3
    rcases List.mem_cons.1 hx with rfl|hx
    ·exact hy
    ·have:=h5 x hx;omega
   ·rw[List.map_cons];refine List.pairwise_cons.2 ⟨fun b hb=> ?_,h6⟩;obtain⟨x,hx,rfl⟩:=List.mem_map.1 hb;exact h5 x hx
  ·rintro⟨h1,h2,h3⟩;rw[List.map_cons]at h3;obtain⟨h4,h5⟩:=List.pairwise_cons.1 h3;refine⟨⟨h1 y (List.mem_cons_self ..),?_⟩,fun x hx=>h1 x (List.mem_cons_of_mem _ hx),fun q hq x hx=> ?_,h5⟩
   ·cases p with
    |none=>rfl
    |some q=>exact decide_eq_true (h2 q rfl y (List.mem_cons_self ..))
   ·cases hq
    exact h4 _ (List.mem_map.2 ⟨x,hx,rfl⟩)
theorem yJ (ex:Int→Bool) (kids:Int→List Int):∀n (xs:List Int),(∀x∈xs,An kids 1 x)→∀x∈wQ ex kids n xs,An kids 1 x
 |0,_,h=>h
 |n+1,xs,h=>yJ ex kids n _ (fun x hx=>by
  rcases(lJ ex kids xs x).1 hx with hx|⟨⟨z,hz,hk⟩,_⟩
  ·exact h x hx
  ·exact .step (h z hz) hk)
theorem pk (l:List aX) (x:aX) (h:x∈l):dp l x.f0=true:=by
 rcases q_ x.f0 l 0 with g|⟨j,hj,g,e⟩
 ·exact absurd rfl (th x.f0 l 0 (by omega) x h)
 ·unfold dp;rw[g];exact decide_eq_true (by omega)
theorem uniq (l:List aX) (st:(l.map (·.f0)).Pairwise (·<·)) (x y:aX) (hx:x∈l) (hy:y∈l) (h:x.f0=y.f0):x=y:=by
 induction l with
 |nil=>simp at hx
 |cons z l ih=>
  rw[List.map_cons]at st;obtain⟨h1,h2⟩:=List.pairwise_cons.1 st;rcases List.mem_cons.1 hx with ex|hx
  ·rcases List.mem_cons.1 hy with ey|hy
   ·rw[ex,ey]
   ·have:=h1 _ (List.mem_map.2 ⟨y,hy,rfl⟩);rw[←ex]at this;omega
  ·rcases List.mem_cons.1 hy with ey|hy
   ·have:=h1 _ (List.mem_map.2 ⟨x,hx,rfl⟩);rw[←ey]at this;omega
   ·exact ih h2 hx hy
theorem Ap (l:List aX) (st:(l.map (·.f0)).Pairwise (·<·)) (x:aX) (h:x∈l):fh l x.f0=x:=
 uniq l st _ _ (lU l x.f0 (pk l x h)).1 h (lU l x.f0 (pk l x h)).2
theorem yc (l:List aX) (nx:Int):kt l nx=true↔yI l nx:=by
 constructor
 ·intro h;have t:=lQ l nx h;simp only[kt,nC,nj,Bool.and_eq_true,decide_eq_true_eq,beq_iff_eq]at h;obtain⟨⟨⟨h1,h2⟩,h3,h4⟩,_⟩:=h;obtain⟨g1,_,g3⟩:=(wH nx l none).1 h3;refine⟨h1.1,h1.2,h2,fun x hx=>(g1 x hx).1,fun x hx=>(g1 x hx).2,g3,?_,t.lk,t.en,fun x hx=> ?_⟩
  ·have hr:af l 0=l[0]'(by omega):=getD_at l _ 0 (by omega);rw[hr]at h4;exact⟨_,List.getElem_mem _,h4⟩
  ·have hl:=u_ (dp l) (fq l) l.length [1] (List.pairwise_singleton ..);have hall:=qZ _ (l.map (·.f0)) (nQ hl) (vl (dp l) (fq l) (l.map (·.f0)) (fun _ _ y _ hy=>oq l y hy) _ _ (fun y hy=>by rw[List.mem_singleton.1 hy];exact oq l 1 t.rt)) (by rw[List.length_map,t.re];exact Nat.le_refl _) x.f0 (List.mem_map.2 ⟨x,hx,rfl⟩);exact yJ _ _ _ _ (fun y hy=>by rw[List.mem_singleton.1 hy];exact .refl) _ hall
 ·intro t
  have hr1:dp l 1=true:=by
   obtain⟨x,hx,h1,_⟩:=t.hd;rw[←h1];exact pk l x hx
  have hhead:nj l=true:=by
   obtain⟨x,hx,h1,h2⟩:=t.hd;have hn:=t.n1;have hr:af l 0=l[0]'(by omega):=getD_at l _ 0 (by omega);have hp:=sO _ (t.ok _ (List.getElem_mem (show 0<l.length by omega)))
   have hx0:x=l[0]'(by omega):=by
    obtain⟨i,hi,rfl⟩:=List.getElem_of_mem hx
    cases i with
    |zero=>rfl
    |succ i=>
     have:=List.pairwise_iff_getElem.1 t.st 0 (i+1) (by rw[List.length_map];omega) (by rw[List.length_map];exact hi) (by omega);rw[List.getElem_map,List.getElem_map]at this
     omega
   unfold nj;rw[hr,←hx0,h1,h2];rfl
  have hT:nC l nx=true:=by
   unfold nC;simp only[Bool.and_eq_true,decide_eq_true_eq];exact⟨⟨⟨t.n1,t.n30⟩,t.x⟩,(wH nx l none).2 ⟨fun x hx=>⟨t.ok x hx,t.lt x hx⟩,⟨(fun q hq=>by cases hq),t.st⟩⟩,hhead⟩
  have hL:pS l l=true:=by
   unfold pS nn;rw[List.all_eq_true];intro x hx;rw[Bool.and_eq_true,List.all_eq_true];exact⟨decide_eq_true (t.lk x hx),fun e he=>t.en x hx e he⟩
  have hR:(ot l).length=l.length:=by
   unfold ot;rw[if_pos hr1];have hl:=u_ (dp l) (fq l) l.length [1] (List.pairwise_singleton ..);have hin:∀x∈wQ (dp l) (fq l) l.length [1],x∈l.map (·.f0):=vl (dp l) (fq l) (l.map (·.f0)) (fun _ _ y _ hy=>oq l y hy) _ _ (fun y hy=>by rw[List.mem_singleton.1 hy];exact oq l 1 hr1);have hshut:=sZ (dp l) (fq l) (l.map (·.f0)) (fun y hy=>oq l y hy) l.length [1] (List.pairwise_singleton ..) (fun x hx=>by rw[List.mem_singleton.1 hx];exact oq l 1 hr1) (by rw[List.length_map];omega);have h1:=vk (dp l) (fq l) l.length [1] 1 (List.mem_singleton.2 rfl)
   have hdes:∀x,An (fq l) 1 x→x∈wQ (dp l) (fq l) l.length [1]:=by
    intro x hx
    induction hx with
    |refl=>exact h1
    |step _ hk ih=>
     obtain⟨⟨p1,_⟩,p3⟩:=abD l _ _ hk;obtain⟨e,he,h⟩:=List.mem_map.1 p3;have hex:=t.en _ (lU l _ p1).1 e he;have h:e.f1=_:=h;rw[h]at hex;exact hshut _ ih _ hk hex
   have a:=mx _ _ (nQ hl) hin
   have b:=mx (l.map (·.f0)) _ (nQ t.st) (fun x hx=>by
    obtain⟨y,hy,rfl⟩:=List.mem_map.1 hx
    exact hdes _ (t.re y hy))
   rw[List.length_map]at a b
   omega
  unfold kt;rw[hT,hL,hR];simp
end Go.Proofs.YtlecajlnjmbilaaGreatDoor.Q
namespace Go.Proofs.YtlecajlnjmbilaaGreatDoor.Q
open Go.RowKit Go.Proofs.YtlecajlnjmbilaaGreatDoor.P Go.Proofs.ab.ar Go.Proofs.ab.aH Go.Proofs.ab.aN
def ld (x:aX) (y:aX):aX:=if y.f0=x.f0 then x else y
theorem qK (l:List aX) (st:(l.map (·.f0)).Pairwise (·<·)) (x:aX) (h:dp l x.f0=true):kI x l=l.map (ld x):=by
 unfold dp at h;have h:=of_decide_eq_true h;unfold kI;rw[if_pos h];rcases q_ x.f0 l 0 with g|⟨j,hj,g,e⟩
 ·omega
 ·rw[g]
  have:((0+j:Nat):Int).toNat=j:=by omega
  rw[this]
  apply List.ext_getElem
  ·rw[List.length_set,List.length_map]
  ·intro i h1 h2;rw[List.getElem_set,List.getElem_map]
   have hi:i<l.length:=by rw[List.length_set]at h1;exact h1
   unfold ld
   by_cases c:j=i
   ·subst c;rw[if_pos rfl,if_pos e]
   ·rw[if_neg c,if_neg];intro hf;have hp:=List.pairwise_iff_getElem.1 st;rcases Nat.lt_or_ge i j with d|d
    ·have:=hp i j (by rw[List.length_map];exact hi) (by rw[List.length_map];exact hj) d;rw[List.getElem_map,List.getElem_map]at this
     omega
    ·have:=hp j i (by rw[List.length_map];exact hj) (by rw[List.length_map];exact hi) (by omega);rw[List.getElem_map,List.getElem_map]at this
     omega
theorem yd (l:List aX) (g:aX→aX) (h:∀x∈l,(g x).f0=x.f0):(l.map g).map (·.f0)=l.map (·.f0):=by
 rw[List.map_map]
 exact List.map_congr_left fun x hx=>h x hx
theorem ye (n:Int) (g:aX→aX) (l:List aX):∀i:Nat,(∀x∈l,(g x).f0=x.f0)→ct n (l.map g) i=ct n l i:=by
 induction l with
 |nil=>intro i _;rfl
 |cons x l ih=>
  intro i h;rw[List.map_cons,ct,ct,h x (List.mem_cons_self ..),ih _ fun y hy=>h y (List.mem_cons_of_mem _ hy)]
theorem qL (g:aX→aX) (l:List aX) (h:∀x∈l,(g x).f0=x.f0) (n:Int):dp (l.map g) n=dp l n:=by
 unfold dp;rw[ye n g l 0 h]
theorem Aq (g:aX→aX) (l:List aX) (st:(l.map (·.f0)).Pairwise (·<·)) (h:∀x∈l,(g x).f0=x.f0) (n:Int) (hn:dp l n=true):fh (l.map g) n=g (fh l n):=by
 obtain⟨h1,h2⟩:=lU l n hn;have:=Ap (l.map g) (by rw[yd l g h];exact st) (g (fh l n)) (List.mem_map.2 ⟨_,h1,rfl⟩);rw[h _ h1,h2]at this;exact this
theorem yI.same {l:List aX}{nx:Int}(t:yI l nx) (g:aX→aX) (h:∀x∈l,(g x).f0=x.f0∧(g x).f1=x.f1∧(g x).f2=x.f2∧(g x).f4=x.f4) (hok:∀x∈l,pC (g x)=true):yI (l.map g) nx:=by
 have h0:∀x∈l,(g x).f0=x.f0:=fun x hx=>(h x hx).1
 have hk:fq (l.map g)=fq l:=by
  funext n
  unfold fq;rw[qL g l h0]
  by_cases c:dp l n=true
  ·rw[Aq g l t.st h0 n c,(h _ (lU l n c).1).2.1,(h _ (lU l n c).1).2.2.2]
  ·rw[if_neg (fun e=>c e.1),if_neg (fun e=>c e.1)]
 have hlk:∀n,eC n (l.map g)=eC n l:=by
  intro n;unfold eC;rw[List.map_map]
  congr 1
  refine List.map_congr_left fun x hx=> ?_
  show fT n (g x)=fT n x
  unfold fT;rw[(h x hx).2.1,(h x hx).2.2.2]
 have get:∀y∈l.map g,∃x∈l,g x=y:=fun y hy=>by simpa using hy
 refine⟨by rw[List.length_map];exact t.n1,by rw[List.length_map];exact t.n30,t.x,fun y hy=> ?_,fun y hy=> ?_,by rw[yd l g h0];exact t.st,?_,fun y hy=> ?_,fun y hy e he=> ?_,fun y hy=> ?_⟩
 ·obtain⟨x,hx,rfl⟩:=get y hy;exact hok x hx
 ·obtain⟨x,hx,rfl⟩:=get y hy;rw[h0 x hx];exact t.lt x hx
 ·obtain⟨x,hx,h1,h2⟩:=t.hd;exact⟨g x,List.mem_map.2 ⟨x,hx,rfl⟩,by rw[h0 x hx];exact h1,by rw[(h x hx).2.1];exact h2⟩
 ·obtain⟨x,hx,rfl⟩:=get y hy;rw[(h x hx).2.2.1,h0 x hx,hlk];exact t.lk x hx
 ·obtain⟨x,hx,rfl⟩:=get y hy;rw[(h x hx).2.2.2]at he;rw[qL g l h0];exact t.en x hx e he
 ·obtain⟨x,hx,rfl⟩:=get y hy;rw[hk,h0 x hx];exact t.re x hx
end Go.Proofs.YtlecajlnjmbilaaGreatDoor.Q
namespace Go.Proofs.YtlecajlnjmbilaaGreatDoor.Q
open Go.RowKit Go.Proofs.YtlecajlnjmbilaaGreatDoor.P Go.Proofs.ab.ar Go.Proofs.ab.aH Go.Proofs.ab.aN
def gtB (a b:ByteArray):Bool:= !(Op.bytesLess a.toList b.toList||a.toList==b.toList)
def leB (a b:ByteArray):Prop:=a.data.toList≤b.data.toList
theorem aco (a b:ByteArray):gtB a b=true↔¬leB a b:=by
 unfold gtB leB;rw[ByteArray.toList_eq,ByteArray.toList_eq,Go.Proofs.bytesLess_eq];simp only[Bool.not_eq_true',Bool.or_eq_false_iff,decide_eq_false_iff_not,beq_eq_false_iff_ne,ne_eq]
 constructor
 ·rintro⟨h1,h2⟩ h;exact h2 (List.le_antisymm h (List.not_lt.1 h1))
 ·intro h;exact⟨fun g=>h (List.le_of_lt g),fun g=>h (by rw[g];exact List.le_refl _)⟩
end Go.Proofs.YtlecajlnjmbilaaGreatDoor.Q
namespace Go.Proofs.YtlecajlnjmbilaaGreatDoor.Q
open Go.RowKit Go.Proofs.YtlecajlnjmbilaaGreatDoor.P Go.Proofs.ab.ar Go.Proofs.ab.aH Go.Proofs.ab.aN
def wI (a b:ByteArray):Prop:=a.data.toList<b.data.toList
theorem Ar (a b:ByteArray):Op.bytesLess a.toList b.toList=true↔wI a b:=by
 unfold wI;rw[ByteArray.toList_eq,ByteArray.toList_eq,Go.Proofs.bytesLess_eq,decide_eq_true_eq]
theorem ua {a b c:ByteArray}(h:wI a b) (g:wI b c):wI a c:=List.lt_trans h g
theorem vo (a b:ByteArray):gtB a b=true↔wI b a:=(aco a b).trans List.not_le
section
variable {α:Type}(key:α→ByteArray) (d:α)
def rO (xs:List α) (n:ByteArray):Nat→Nat
 |0=>0
 |k+1=>if gtB (key (xs.getD k d)) n=true then rO xs n k else k+1
def yf (xs:List α) (x:α):List α:=xs.take (rO key d xs (key x) xs.length)++[x]++xs.drop (rO key d xs (key x) xs.length)
theorem yK (xs:List α) (n:ByteArray) (p:Nat) (h1:∀i (hi:i<xs.length),i<p→¬wI n (key xs[i])) (h2:∀i (hi:i<xs.length),p≤i→wI n (key xs[i])):
  ∀k,p≤k→k≤xs.length→rO key d xs n k=p
 |0,h,_=>by rw[rO];omega
 |k+1,h,hk=>by
  have g:xs.getD k d=xs[k]:=by rw[List.getD_eq_getElem?_getD,List.getElem?_eq_getElem (by omega)];rfl
  rw[rO,g]
  by_cases c:p=k+1
  ·rw[if_neg (fun e=>h1 k (by omega) (by omega) ((vo _ _).1 e))];exact c.symm
  ·rw[if_pos ((vo _ _).2 (h2 k (by omega) (by omega)))];exact yK xs n p h1 h2 k (by omega) (by omega)
def qM (xs:List α):Prop:=xs.Pairwise fun a b=>wI (key a) (key b)
theorem qM.place {xs:List α}(h:qM key xs) (n:ByteArray) (p:Nat) (hp:p≤xs.length) (h1:∀i (hi:i<xs.length),i<p→¬wI n (key xs[i])) (h2:∀hi:p<xs.length,wI n (key xs[p])):
  rO key d xs n xs.length=p:=by
 refine yK key d xs n p h1 (fun i hi hpi=> ?_) _ hp (Nat.le_refl _)
 have hps:p<xs.length:=by omega
 rcases Nat.lt_or_ge p i with c|c
 ·exact ua (h2 hps) (List.pairwise_iff_getElem.1 h p i hps hi c)
 ·have:p=i:=by omega
  subst this;exact h2 hps
end
theorem As (n:ByteArray) (l:List cA):∀j:Nat,(vW n l j= -1∧∀i (hi:i<l.length),¬wI n l[i].f0)∨∃p,∃h:p<l.length,vW n l j=((j+p:Nat):Int)∧wI n l[p].f0∧∀i (hi:i<l.length),i<p→¬wI n l[i].f0:=by
 induction l with
 |nil=>intro j;exact .inl ⟨rfl,fun i hi=>by simp at hi⟩
 |cons x l ih=>
  intro j;rw[vW]
  by_cases c:gtS x.f0 n=true
  ·rw[if_pos c];exact .inr ⟨0,by simp,by simp,(vo _ _).1 c,fun i _ h=>by omega⟩
  ·rw[if_neg c]
   have hx:¬wI n x.f0:=fun e=>c ((vo _ _).2 e)
   rcases ih (j+1)with⟨h,g⟩|⟨p,hp,h,g1,g2⟩
   ·refine .inl ⟨h,fun i hi=> ?_⟩
    cases i with
    |zero=>exact hx
    |succ i=>exact g i (by simpa using hi)
   ·refine .inr ⟨p+1,by simp;omega,by rw[h];congr 1;omega,g1,fun i hi hip=> ?_⟩
    cases i with
    |zero=>exact hx
    |succ i=>exact g2 i (by simpa using hi) (by omega)
theorem yg (n:ByteArray) (l:List cA) (d:cA) (h:qM (fun e:cA=>e.f0) l):rO (fun e:cA=>e.f0) d l n l.length=oe n l:=by
 unfold oe;rcases As n l 0 with⟨h1,h2⟩|⟨p,hp,h1,h2,h3⟩
 ·rw[h1,if_pos (by decide)];exact qM.place _ d h n _ (Nat.le_refl _) (fun i hi _=>h2 i hi) (fun hi=>by omega)
 ·rw[h1,if_neg (by omega)]
  have:((0+p:Nat):Int).toNat=p:=by omega
  rw[this];exact qM.place _ d h n p (by omega) h3 (fun _=>h2)
theorem At (l:List cA) (e d:cA) (h:qM (fun e:cA=>e.f0) l):yf (fun e:cA=>e.f0) d l e=oN e.f0 e.f1 l:=by
 unfold yf oN;rw[yg _ _ _ h]
theorem yh (l:List cA):∀p,me p l=true→(∀q,p=some q→∀e∈l,wI q e.f0)∧qM (fun e:cA=>e.f0) l:=by
 induction l with
 |nil=>intro p _;exact⟨fun _ _ e he=>by simp at he,List.Pairwise.nil⟩
 |cons x l ih=>
  intro p h;simp only[me,Bool.and_eq_true]at h;obtain⟨h1,h2⟩:=ih _ h.2;refine⟨fun q hq e he=> ?_,List.pairwise_cons.2 ⟨fun e he=>h1 x.f0 rfl e he,h2⟩⟩;subst hq;have hx:wI q x.f0:=(Ar _ _).1 h.1.2;rcases List.mem_cons.1 he with rfl|he
  ·exact hx
  ·exact ua hx (h1 x.f0 rfl e he)
end Go.Proofs.YtlecajlnjmbilaaGreatDoor.Q
namespace Go.Proofs.YtlecajlnjmbilaaGreatDoor.Q
open Go.RowKit Go.Proofs.YtlecajlnjmbilaaGreatDoor.P Go.Proofs.ab.ar Go.Proofs.ab.aH Go.Proofs.ab.aN
end Go.Proofs.YtlecajlnjmbilaaGreatDoor.Q
namespace Go.Proofs.YtlecajlnjmbilaaGreatDoor.Q
open Go.RowKit Go.Proofs.YtlecajlnjmbilaaGreatDoor.P Go.Proofs.ab.ar Go.Proofs.ab.aH Go.Proofs.ab.aN
theorem An.mono {k k':Int→List Int}(h:∀p,∀x∈k p,x∈k' p) {c x:Int}(d:An k c x):An k' c x:=by
 induction d with
 |refl=>exact .refl
 |step _ hx ih=>exact .step ih (h _ _ hx)
theorem abE (y z:aX):(ld y z).f0=z.f0:=by
 unfold ld
 by_cases c:z.f0=y.f0
 ·rw[if_pos c];exact c.symm
 ·rw[if_neg c]
end Go.Proofs.YtlecajlnjmbilaaGreatDoor.Q
namespace Go.Proofs.YtlecajlnjmbilaaGreatDoor.Q
open Go.RowKit Go.Proofs.YtlecajlnjmbilaaGreatDoor.P Go.Proofs.ab.ar Go.Proofs.ab.aH Go.Proofs.ab.aN
theorem wJ (T:List aX) (p:ByteArray) (h:(fp T p).2=0):(fp T p).1∈T:=by
 unfold fp at h⊢
 by_cases c:(lA T p).2=0
 ·rw[if_pos c]at h⊢
  by_cases c2:dp T (lA T p).1=true
  ·rw[if_pos c2];exact(lU T _ c2).1
  ·rw[if_neg c2]at h;exact absurd h (by show¬(2:Int)=0;decide)
 ·rw[if_neg c]at h;exact absurd h c
theorem sH (T:List aX) (p:ByteArray) (h:(fl T p).2.2=0):(fl T p).1∈T∧(fl T p).1.f1=2∧(fl T p).2.1=(eM p).2.1:=by
 unfold fl at h⊢;dsimp only at h⊢
 by_cases c:(fp T (eM p).1).2=0
 ·rw[if_pos c]at h⊢
  by_cases c2:(fp T (eM p).1).1.f1=2
  ·rw[if_pos c2];exact⟨wJ T _ c,c2,rfl⟩
  ·rw[if_neg c2]at h;exact absurd h (by show¬(3:Int)=0;decide)
 ·rw[if_neg c]at h;exact absurd h c
theorem abF (T:List aX) (p:ByteArray) (h:(iv T p).2=0):(iv T p).1∈T∧(iv T p).1.f1=1:=by
 unfold iv at h⊢
 by_cases c:(fp T p).2=0∧(fp T p).1.f1≠1
 ·rw[if_pos c]at h;exact absurd h (by show¬(3:Int)=0;decide)
 ·rw[if_neg c]at h⊢;refine⟨wJ T p h,Classical.byContradiction fun q=>c ⟨h,q⟩⟩
end Go.Proofs.YtlecajlnjmbilaaGreatDoor.Q
namespace Go.Proofs.YtlecajlnjmbilaaGreatDoor.Q
open Go.RowKit Go.Proofs.YtlecajlnjmbilaaGreatDoor.P Go.Proofs.ab.ar Go.Proofs.ab.aH Go.Proofs.ab.aN
end Go.Proofs.YtlecajlnjmbilaaGreatDoor.Q
namespace Go.Proofs.YtlecajlnjmbilaaGreatDoor.Q
open Go.RowKit Go.Proofs.YtlecajlnjmbilaaGreatDoor.P Go.Proofs.ab.ar Go.Proofs.ab.aH Go.Proofs.ab.aN
end Go.Proofs.YtlecajlnjmbilaaGreatDoor.Q
namespace Go.Proofs.YtlecajlnjmbilaaGreatDoor.Q
open Go.RowKit Go.Proofs.YtlecajlnjmbilaaGreatDoor.P Go.Proofs.ab.ar Go.Proofs.ab.aH Go.Proofs.ab.aN
end Go.Proofs.YtlecajlnjmbilaaGreatDoor.Q
namespace Go.Proofs.YtlecajlnjmbilaaGreatDoor.Q
open Go.RowKit Go.Proofs.YtlecajlnjmbilaaGreatDoor.P Go.Proofs.ab.ar Go.Proofs.ab.aH Go.Proofs.ab.aN
def ra (T:List aX) (p:ByteArray):aX×Int:=if(fp T p).2=0∧(fp T p).1.f1≠1 then(nr,3)else fp T p
theorem wK (T:List aX) (p:ByteArray):(ra T p).2=(iv T p).2:=by
 unfold ra iv;split<;>rfl
theorem wL (T:List aX) (p:ByteArray) (h:(iv T p).2=0):ra T p=iv T p:=by
 unfold iv at h;unfold ra iv
 split
 ·rename_i c;rw[if_pos c]at h;cases h
 ·rfl
theorem Au (T:List aX) (nx:Int) (p:ByteArray) (hT:T.length≤1048576) (hs:∀x∈T,gu x) (hp:p.size≤1048576):Ev (fun k=>iU.f k T nx p) (wP (ra T p)):=by
 unfold iU.f ra;refine Ev.bind (tZ T nx p hT hs hp) ?_;simp only[wP]
 by_cases c:(fp T p).2=0
 ·refine bn c ?_
  by_cases c2:(fp T p).1.f1=1
  ·refine bn c2 (eP (Ev.now _) ?_);rw[if_neg (fun h=>h.2 c2)]
  ·refine dj c2 (eP (Ev.now _) ?_);rw[if_pos ⟨c,c2⟩];rfl
 ·refine dj c (eP (Ev.now _) ?_);rw[if_neg (fun h=>c h.1)]
end Go.Proofs.YtlecajlnjmbilaaGreatDoor.Q
namespace Go.Proofs.YtlecajlnjmbilaaGreatDoor.Q
open Go.RowKit Go.Proofs.YtlecajlnjmbilaaGreatDoor.P Go.Proofs.ab.ar Go.Proofs.ab.aH Go.Proofs.ab.aN
theorem rb (p:ByteArray):(eM p).2.2=true↔((fv p).2=true∧p.toList≠([47]:List UInt8)):=by
 unfold eM
 by_cases c:(fv p).2=true
 ·rw[if_pos c]
  by_cases r:p.toList=([47]:List UInt8)
  ·have h0:(fv p).1.length=0:=by unfold fv;rw[if_pos r];rfl
   rw[if_pos h0];exact⟨fun h=>(by cases h),fun h=>absurd r h.2⟩
  ·have hne:¬(fv p).1.length=0:=by
    intro h0;have hne:=List.eq_nil_of_length_eq_zero h0;unfold fv at c hne;rw[if_neg r]at c hne;generalize (parts p.data.toList).map pQ=m at c hne
    cases m with
    |nil=>cases c
    |cons x l=>
     dsimp only at c hne
     by_cases d:x.toList=[]∧l≠[]∧fy l=true
     ·rw[if_pos d]at hne;exact d.2.1 hne
     ·rw[if_neg d]at c;cases c
   rw[if_neg hne];exact⟨fun _=>⟨c,r⟩,fun _=>rfl⟩
 ·rw[if_neg c];exact⟨fun h=>(by cases h),fun h=>absurd h.1 c⟩
theorem qV (T:List aX) (nx:Int) (ps:List ByteArray) (h:mc T nx ps=true):T.length≤30:=by
 simp only[mc,kt,nC,Bool.and_eq_true,decide_eq_true_eq]at h
 omega
end Go.Proofs.YtlecajlnjmbilaaGreatDoor.Q
namespace Go.Proofs.YtlecajlnjmbilaaGreatDoor.Q
open Go.RowKit Go.Proofs.YtlecajlnjmbilaaGreatDoor.P Go.Proofs.ab.ar Go.Proofs.ab.aH Go.Proofs.ab.aN
theorem wM {α:Type}(S R:List α) (k:Nat) (hk:k≤S.length) (y v:α):(S.take k++y::R).set ((k:Nat):Int).toNat v=S.take k++v::R:=by
 rw[Int.toNat_natCast,List.set_append,if_neg (by rw[List.length_take];omega),List.length_take,Nat.min_eq_left hk,Nat.sub_self,List.set_cons_zero]
theorem abG (a b:ByteArray):gtB a b=Op.bytesLess b.toList a.toList:=by
 unfold gtB;rw[Bool.not_or];exact abQ _ _
abbrev keyE (e:cA):ByteArray:=e.f0
theorem ub (l:List cA) (nm:ByteArray) (ino:Int) (hl:l.length≤1048576):∀(k:Nat) (y:cA),k≤l.length→rO keyE z75 l nm l.length=rO keyE z75 l nm k→
  Ev (fun r=>cz.l0 r (l.take k++y::l.drop k) (k:Int) nm ino) (yf keyE z75 l ⟨nm,ino⟩)
 |0,y,_,hp=>by
  have hset:=wM l (l.drop 0) 0 (Nat.zero_le _) y (⟨nm,ino⟩:cA)
  have he:l.take 0++(⟨nm,ino⟩:cA)::l.drop 0=yf keyE z75 l ⟨nm,ino⟩:=by unfold yf;rw[hp];simp[rO]
  apply ba
  simp only[cz.l0];refine dj (by omega) (bn (by omega) (bn (by simp only[List.length_append,List.length_cons];omega) (eP (Ev.now _) ?_)));rw[hset,he]
 |k+1,y,hk,hp=>by
  have hw:wrap64 (((k+1:Nat):Int)-1)=(k:Int):=by rw[ly (by omega) (by omega)];omega
  have hlen:(l.take (k+1)++y::l.drop (k+1)).length=l.length+1:=by
   simp only[List.length_append,List.length_cons,List.length_take,List.length_drop];omega
  have hrd:al (l.take (k+1)++y::l.drop (k+1)) (k:Int)=l[k]:=by
   refine(getD_at _ _ k (by rw[hlen];omega)).trans ?_;rw[List.getElem_append_left (by rw[List.length_take];omega),List.getElem_take]
  have hg:l.getD k z75=l[k]:=by rw[List.getD_eq_getElem?_getD,List.getElem?_eq_getElem hk];rfl
  have hset:∀v,(l.take (k+1)++y::l.drop (k+1)).set ((k+1:Nat):Int).toNat v=l.take (k+1)++v::l.drop (k+1):=wM l _ (k+1) hk y
  have hsp:l.take (k+1)++l[k]::l.drop (k+1)=l.take k++l[k]::l.drop k:=by
   rw[List.drop_eq_getElem_cons hk,List.take_succ_eq_append_getElem hk,List.append_assoc];rfl
  rw[rO,hg,abG]at hp
  apply ba
  simp only[cz.l0,hw,hrd];refine bn (by omega) (bn (by omega) (bn (by rw[hlen];omega) ?_))
  by_cases c:Op.bytesLess nm.toList l[k].f0.toList=true
  ·rw[if_pos c]at hp;refine bn c (bn (by omega) (bn (by rw[hlen];omega) ?_));rw[hset,show(⟨l[k].f0,l[k].f1⟩:cA)=l[k]from rfl,hsp];exact ub l nm ino hl k l[k] (by omega) hp
  ·rw[if_neg c]at hp;refine dj c (bn (by omega) (bn (by rw[hlen];omega) (eP (Ev.now _) ?_)))
   have he:l.take (k+1)++(⟨nm,ino⟩:cA)::l.drop (k+1)=yf keyE z75 l ⟨nm,ino⟩:=by unfold yf;rw[hp];simp
   rw[hset,he]
theorem abH (l:List cA) (nm:ByteArray) (ino:Int) (hl:l.length≤1048576) (hs:qM keyE l):Ev (fun k=>cz.f k l nm ino) (oN nm ino l):=by
 have h:=ub l nm ino hl l.length ⟨nm,ino⟩ (Nat.le_refl _) rfl;rw[List.take_length,List.drop_length]at h;have hi:=At l ⟨nm,ino⟩ z75 hs;unfold cz.f;simp only[Option.bind_some,List.nil_append];refine bn (by simp;omega) (bn (by simp;omega) ?_);rw[show(wrap64 (((l++[(⟨nm,ino⟩:cA)]).length:Int)-1))=(l.length:Int) by rw[List.length_append,List.length_singleton,ly (by omega) (by omega)];omega];exact eP h hi
def qe (T:List aX) (p:ByteArray) (fr:Int):aX×ByteArray×Int:=
 if(eM p).2.2=true then
  (if(fp T (eM p).1).2=0 then
   (if(fp T (eM p).1).1.f1=2 then
    (if lR (eM p).2.1 (fp T (eM p).1).1.f4=0 then
     (if(10:Int)≤((fp T (eM p).1).1.f4.length:Int)∧(fp T (eM p).1).1.f0≠fr then(nr,⟨#[]⟩,5)else((fp T (eM p).1).1,(eM p).2.1,0))
     else(nr,⟨#[]⟩,4))
    else(nr,⟨#[]⟩,3))
   else(nr,⟨#[]⟩,(fp T (eM p).1).2))
 else(nr,⟨#[]⟩,1)
theorem Av (T:List aX) (nx:Int) (p:ByteArray) (fr:Int) (hT:T.length≤1048576) (hA:∀x∈T,gu x) (hp:p.size≤1048576):Ev (fun k=>jo.f k T nx p fr) (yG (qe T p fr)):=by
 unfold jo.f qe;refine Ev.bind (rD p hp) ?_;have hps:=qJ p;have hsm:=nE T (eM p).1 hA;generalize eM p=q at*
 by_cases c1:q.2.2=true
 ·refine bn c1 (Ev.bind (tZ T nx _ hT hA hps) ?_);rw[if_pos c1];simp only[wP];generalize fp T q.1=s at*
  by_cases c2:s.2=0
  ·refine bn c2 ?_;rw[if_pos c2]
   by_cases c3:s.1.f1=2
   ·refine bn c3 (Ev.bind (sR _ _ _ _ _ _ _ (by have:=hsm.e;omega)) ?_);rw[if_pos c3]
    by_cases c4:lR q.2.1 s.1.f4=0
    ·refine bn c4 ?_;rw[if_pos c4]
     by_cases c5:(10:Int)≤(s.1.f4.length:Int)
     ·refine bn c5 ?_
      by_cases c6:s.1.f0=fr
      ·refine bn c6 (eP (Ev.now _) ?_);rw[if_neg (fun h=>h.2 c6)];rfl
      ·refine dj c6 (eP (Ev.now _) ?_);rw[if_pos ⟨c5,c6⟩];rfl
     ·refine dj c5 (eP (Ev.now _) ?_);rw[if_neg (fun h=>c5 h.1)];rfl
    ·refine dj c4 (eP (Ev.now _) ?_);rw[if_neg c4];rfl
   ·refine dj c3 (eP (Ev.now _) ?_);rw[if_neg c3];rfl
  ·refine dj c2 (eP (Ev.now _) ?_);rw[if_neg c2];rfl
 ·refine dj c1 (eP (Ev.now _) ?_);rw[if_neg c1];rfl
theorem Aw (x:aX) (h:pC x=true):qM keyE x.f4:=by
 simp only[pC,im,pg,Bool.and_eq_true,decide_eq_true_eq]at h;obtain⟨⟨⟨_,he⟩,_⟩,_⟩:=h;exact(yh x.f4 none he.1).2
theorem Ax (T:List aX) (nx:Int) (p:ByteArray) (h:kt T nx=true) (h1:(fv p).2=true) (h2:p.toList≠([47]:List UInt8)):
  ((fl T p).2.2≠0→(qe T p 0).2.2=(fl T p).2.2)∧((fl T p).2.2=0→lR (fl T p).2.1 (fl T p).1.f4≠0→(qe T p 0).2.2=4)∧
   ((fl T p).2.2=0→lR (fl T p).2.1 (fl T p).1.f4=0→(fl T p).1.f4.length=10→(qe T p 0).2.2=5)∧
   ((fl T p).2.2=0→lR (fl T p).2.1 (fl T p).1.f4=0→(fl T p).1.f4.length≠10→qe T p 0=((fl T p).1,(fl T p).2.1,0)):=by
 have hok:=(rb p).2 ⟨h1,h2⟩;have t:=lQ T nx h;have hin:=sH T p;have hsp:fl T p=(let s:=fp T (eM p).1;if s.2=0 then(if s.1.f1=2 then(s.1,(eM p).2.1,0)else(nr,⟨#[]⟩,3))else(nr,⟨#[]⟩,s.2)):=rfl;rw[hsp]at hin⊢;unfold qe;rw[if_pos hok];dsimp only at hin⊢;generalize fp T (eM p).1=s at*
 by_cases c2:s.2=0
 ·rw[if_pos c2]at hin⊢
  by_cases c3:s.1.f1=2
  ·rw[if_pos c3]at hin⊢;have hm:=(hin rfl).1;have h10:=(nP _ (t.ok _ hm)).1;have hpos:=sO _ (t.ok _ hm);dsimp only at hm h10 hpos⊢;refine⟨fun e=>absurd rfl e,fun _ e=> ?_,fun _ e e2=> ?_,fun _ e e2=> ?_⟩
   ·rw[if_pos c2,if_pos c3,if_neg e]
   ·rw[if_pos c2,if_pos c3,if_pos e,if_pos ⟨by omega,by omega⟩]
   ·rw[if_pos c2,if_pos c3,if_pos e,if_neg (fun h=>by omega)]
  ·rw[if_neg c3]at hin⊢;refine⟨fun _=>by rw[if_pos c2,if_neg c3],fun e=>absurd e (by show¬(3:Int)=0;decide),fun e=>absurd e (by show¬(3:Int)=0;decide),fun e=>absurd e (by show¬(3:Int)=0;decide)⟩
 ·rw[if_neg c2]at hin⊢;exact⟨fun _=>by rw[if_neg c2],fun e=>absurd e c2,fun e=>absurd e c2,fun e=>absurd e c2⟩
end Go.Proofs.YtlecajlnjmbilaaGreatDoor.Q
namespace Go.Proofs.YtlecajlnjmbilaaGreatDoor.Q
open Go.RowKit Go.Proofs.YtlecajlnjmbilaaGreatDoor.P Go.Proofs.ab.ar Go.Proofs.ab.aH Go.Proofs.ab.aN
def v_ (T:List aX) (nx:Int) (p q:ByteArray):List aX×Int×Int:=
 if(iv T p).2=0 then
  (if(fl T q).2.2=0 then
   (if lR (fl T q).2.1 (fl T q).1.f4=0 then
    (if(fl T q).1.f4.length=10 then(T,nx,5)
     else(kI (ry (iv T p).1 ((iv T p).1.f2+1)) (kI (qy (fl T q).1 (oN (fl T q).2.1 (iv T p).1.f0 (fl T q).1.f4)) T),nx,0))
    else(T,nx,4))
   else(T,nx,(fl T q).2.2))
 else(T,nx,(iv T p).2)
theorem Ay (T:List aX) (nx:Int) (p q:ByteArray) (hT:T.length<1048576) (hs:∀x∈T,qb x) (hp:p.size≤1048576) (hq:q.size≤1048576) (he:∀x∈T,x.f4.length<1048576)
  (hl: -1048576≤(iv T p).1.f2∧(iv T p).1.f2≤1048576) (hr:mc T nx [p,q]=true) (hr2:q.toList≠([47]:List UInt8)):Ev (fun k=>ca.f k T nx p q) (v_ T nx p q):=by
 have hA:∀x∈T,gu x:=fun x hx=>(hs x hx).a
 unfold ca.f;refine Ev.bind (nJ T nx (by omega) hA) (Ev.bind (wF T nx [p,q] (by omega) hs (fun r hr=>by simp only[List.mem_cons,List.not_mem_nil,or_false]at hr;rcases hr with rfl|rfl<;>assumption) (by simp)) ?_);refine bn hr ?_
 apply ba
 simp only[ca.j0];refine dj (by simpa using hr2) (Ev.bind (Am T nx p (by omega) hA hp) ?_);have hf:=pf T p hA;unfold v_;simp only[wP];generalize iv T p=s at*
 by_cases c1:s.2=0
 ·refine bn c1 ?_;rw[if_pos c1];have hsm:=pe T q hA
  have hse:(fl T q).1.f4.length<1048576:=by
   unfold fl;dsimp only
   split
   ·split
    ·rcases t_ T (eM q).1 with h|h
     ·rw[h];decide
     ·exact he _ h
    ·show nr.f4.length<1048576;decide
   ·show nr.f4.length<1048576;decide
  refine Ev.bind (Al T nx q (by omega) hA hq) ?_;simp only[yG];generalize fl T q=t at*
  by_cases c2:t.2.2=0
  ·refine bn c2 ?_;rw[if_pos c2];refine Ev.bind (sS t.1.f0 t.1.f1 t.1.f2 t.1.f3 t.1.f4 t.1.f5 t.2.1 (by omega)) ?_
   by_cases c3:lR t.2.1 t.1.f4=0
   ·refine bn c3 ?_;rw[if_pos c3]
    by_cases c4:t.1.f4.length=10
    ·refine bn (by omega) (eP (Ev.now _) (by rw[if_pos c4]))
    ·refine dj (by omega) ?_;rw[if_neg c4];have hw:wrap64 (s.1.f2+1)=s.1.f2+1:=ly (by omega) (by omega);simp only[hw];refine Ev.bind (yb t.1 t.2.1 T nx s.1.f0 (by omega) hA hsm hse) ?_;have hlen:=nF (qy t.1 (oN t.2.1 s.1.f0 t.1.f4)) T;refine Ev.bind (wC (kI (qy t.1 (oN t.2.1 s.1.f0 t.1.f4)) T) nx (ry s.1 (s.1.f2+1)) (by omega) (fun x hx=> ?_) ⟨hf.d,hf.e,hf.t⟩) (Ev.now _);rcases qI _ _ _ hx with rfl|hx
     ·exact⟨hsm.d,by show(oN t.2.1 s.1.f0 t.1.f4).length≤1048576;rw[nz];omega,hsm.t⟩
     ·exact hA x hx
   ·refine dj c3 (eP (Ev.now _) (by rw[if_neg c3]))
  ·refine dj c2 (eP (Ev.now _) (by rw[if_neg c2]))
 ·refine dj c1 (eP (Ev.now _) (by rw[if_neg c1]))
end Go.Proofs.YtlecajlnjmbilaaGreatDoor.Q
namespace Go.Proofs.YtlecajlnjmbilaaGreatDoor.Q
open Go.RowKit Go.Proofs.YtlecajlnjmbilaaGreatDoor.P Go.Proofs.ab.ar Go.Proofs.ab.aH Go.Proofs.ab.aN
theorem mu (T:List aX) (nx:Int) (p q:ByteArray):mc T nx [p,q]=true↔(kt T nx=true∧(fv p).2=true∧(fv q).2=true):=by
 unfold mc;simp only[List.all_cons,List.all_nil,Bool.and_true,Bool.and_eq_true];exact⟨fun h=>⟨h.2,h.1.1,h.1.2⟩,fun h=>⟨⟨h.2.1,h.2.2⟩,h.1⟩⟩
theorem yi (x:aX) (h:pC x=true):0≤x.f2∧x.f2≤1000:=by
 simp only[pC,im,Bool.and_eq_true,decide_eq_true_eq]at h
 omega
theorem Az (T:List aX) (st:(T.map (·.f0)).Pairwise (·<·)) (a b:aX) (ha:dp T a.f0=true) (hb:dp T b.f0=true) (hne:a.f0≠b.f0):kI a (kI b T)=kI b (kI a T):=by
 have h1:∀z:aX,∀x∈T,(ld z x).f0=x.f0:=fun z x _=>abE z x
 have s1:∀z:aX,((T.map (ld z)).map (·.f0)).Pairwise (·<·):=fun z=>by rw[yd T _ (h1 z)];exact st
 rw[qK T st b hb,qK T st a ha,qK _ (s1 b) a (by rw[qL _ T (h1 b)];exact ha),qK _ (s1 a) b (by rw[qL _ T (h1 a)];exact hb),List.map_map,List.map_map]
 refine List.map_congr_left fun x _=> ?_
 simp only[Function.comp_apply]
 by_cases c1:x.f0=a.f0
 ·have c2:¬x.f0=b.f0:=fun h=>hne (c1.symm.trans h)
  have e1:ld a x=a:=by unfold ld;rw[if_pos c1]
  have e2:ld b x=x:=by unfold ld;rw[if_neg c2]
  have e3:ld b a=a:=by unfold ld;rw[if_neg hne]
  rw[e2,e1,e3]
 ·have e1:ld a x=x:=by unfold ld;rw[if_neg c1]
  rw[e1]
  by_cases c2:x.f0=b.f0
  ·have e2:ld b x=b:=by unfold ld;rw[if_pos c2]
   have e3:ld a b=b:=by unfold ld;rw[if_neg (fun h=>hne h.symm)]
   rw[e2,e3]
  ·have e2:ld b x=x:=by unfold ld;rw[if_neg c2]
   rw[e2,e1]
def qx (T:List aX) (nx:Int) (p q:ByteArray):List aX×Int×Int:=if mc T nx [p,q]=true∧q.toList≠([47]:List UInt8)then v_ T nx p q else(T,nx,1)
theorem tm (T:List aX) (nx:Int) (p:ByteArray) (h:kt T nx=true): -1048576≤(iv T p).1.f2∧(iv T p).1.f2≤1048576:=by
 have t:=lQ T nx h
 have e:(iv T p).1=(fp T p).1:=by unfold iv;split<;>rfl
 rw[e];rcases t_ T p with h|h
 ·rw[h];decide
 ·have:=yi _ (t.ok _ h);omega
theorem wN (T:List aX) (nx:Int) (h:kt T nx=true):∀x∈T,x.f4.length<1048576:=fun x hx=>by
 have:=(nP _ ((lQ T nx h).ok _ hx)).1
 omega
theorem xB (T:List aX) (nx:Int) (p q:ByteArray) (hT:T.length≤1048576) (hs:∀x∈T,qb x) (hp:p.size≤1048576) (hq:q.size≤1048576):Ev (fun k=>ca.f k T nx p q) (qx T nx p q):=by
 have hA:∀x∈T,gu x:=fun x hx=>(hs x hx).a
 unfold qx
 by_cases c:mc T nx [p,q]=true∧q.toList≠([47]:List UInt8)
 ·rw[if_pos c];have c1:=((mu T nx p q).1 c.1).1;have h30:=qV T nx [p,q] c.1;exact Ay T nx p q (by omega) hs hp hq (wN T nx c1) (tm T nx p c1) c.1 c.2
 ·rw[if_neg c];unfold ca.f;refine Ev.bind (nJ T nx (by omega) hA) (Ev.bind (wF T nx [p,q] (by omega) hs (fun r hr=>by simp only[List.mem_cons,List.not_mem_nil,or_false]at hr;rcases hr with rfl|rfl<;>assumption) (by simp)) ?_)
  by_cases c1:mc T nx [p,q]=true
  ·have c2:q.toList=([47]:List UInt8):=Classical.byContradiction fun h=>c ⟨c1,h⟩
   refine bn c1 ?_
   apply ba
   simp only[ca.j0];exact bn (by simpa using c2) (Ev.now _)
  ·refine dj c1 ?_
   apply ba
   simp only[ca.j0];exact bn trivial (Ev.now _)
theorem xA (T:List aX) (nx:Int) (p q:ByteArray) (hT:T.length≤1048576) (hs:∀x∈T,qb x) (hp:p.size≤1048576) (hq:q.size≤1048576):Ev (fun k=>du.f k T nx p q) (qx T nx p q):=by
 have hA:∀x∈T,gu x:=fun x hx=>(hs x hx).a
 unfold du.f;refine Ev.bind (qd p hp) (Ev.bind (rD q hq) (Ev.bind (wA T nx (by omega) hs) ?_))
 have bad:¬(mc T nx [p,q]=true∧q.toList≠([47]:List UInt8))→Ev (fun k=>du.j0 k p q true T nx) (qx T nx p q):=by
  intro c
  apply ba
  simp only[du.j0];refine bn trivial (Ev.bind (jy T nx (by omega) hA) (eP (Ev.now _) ?_));unfold qx;rw[if_neg c]
 by_cases c1:kt T nx=true
 ·refine bn c1 ?_
  by_cases c0:(fv p).2=true
  ·refine bn c0 ?_
   by_cases c2:(eM q).2.2=true
   ·have⟨s1,s2⟩:=(rb q).1 c2;have hrd:=(mu T nx p q).2 ⟨c1,c0,s1⟩;have h30:=qV T nx [p,q] hrd;rw[c2];unfold qx;rw[if_pos ⟨hrd,s2⟩]
    apply ba
    simp only[du.j0,Bool.not_true];refine dj (by decide) (Ev.bind (Au T nx p (by omega) hA hp) ?_);unfold v_;have hcode:=wK T p;simp only[wP]
    by_cases d1:(iv T p).2=0
    ·refine bn (hcode.trans d1) ?_;rw[if_pos d1,wL T p d1];obtain⟨e1,e2,e3,e4⟩:=Ax T nx q c1 s1 s2;refine Ev.bind (Av T nx q 0 (by omega) hA hq) ?_;simp only[yG]
     by_cases d2:(fl T q).2.2=0
     ·rw[if_pos d2]
      by_cases d3:lR (fl T q).2.1 (fl T q).1.f4=0
      ·rw[if_pos d3]
       by_cases d4:(fl T q).1.f4.length=10
       ·rw[if_pos d4];have e:=e3 d2 d3 d4;exact dj (by rw[e];decide) (Ev.bind (jy T nx (by omega) hA) (eP (Ev.now _) (by rw[e])))
       ·rw[if_neg d4];have e:=e4 d2 d3 d4;rw[e];have t:=(yc T nx).1 c1;have hin:=sH T q d2;have hfi:=abF T p d1;have hsm:=pe T q hA;have hfm:=pf T p hA;have hlk:=tm T nx p c1;have hso:=Aw _ (t.ok _ hin.1);generalize fl T q=s at*;generalize iv T p=f at*
        have hne:f.1.f0≠s.1.f0:=fun h=>by
         have:=uniq T t.st _ _ hfi.1 hin.1 h;rw[this]at hfi;have h1:=hfi.2;have h2:=hin.2.1
         omega
        have hlen:=nz s.2.1 f.1.f0 s.1.f4;have h10:=(nP _ (t.ok _ hin.1)).1;have hx1:gu (ry f.1 (f.1.f2+1)):=⟨hfm.d,hfm.e,hfm.t⟩;have hx2:gu (qy s.1 (oN s.2.1 f.1.f0 s.1.f4)):=⟨hsm.d,by show(oN s.2.1 f.1.f0 s.1.f4).length≤1048576;omega,hsm.t⟩;have hw:wrap64 (f.1.f2+1)=f.1.f2+1:=ly (by omega) (by omega);simp only[hw];refine bn trivial (Ev.bind (abH s.1.f4 s.2.1 f.1.f0 (by omega) hso) (Ev.bind (wD T nx (ry f.1 (f.1.f2+1)) (by omega) hA hx1) ?_));have hl2:=nF (ry f.1 (f.1.f2+1)) T;refine Ev.bind (wD (kI (ry f.1 (f.1.f2+1)) T) nx (qy s.1 (oN s.2.1 f.1.f0 s.1.f4)) (by omega) (fun y hy=> ?_) hx2) (eP (Ev.now _) ?_)
        ·rcases qI _ _ _ hy with rfl|hy
         ·exact hx1
         ·exact hA y hy
        ·have hc:=Az T t.st (qy s.1 (oN s.2.1 f.1.f0 s.1.f4)) (ry f.1 (f.1.f2+1)) (show dp T s.1.f0=true from pk T _ hin.1) (show dp T f.1.f0=true from pk T _ hfi.1) (fun h=>hne h.symm);rw[hc]
      ·rw[if_neg d3];have e:=e2 d2 d3;exact dj (by rw[e];decide) (Ev.bind (jy T nx (by omega) hA) (eP (Ev.now _) (by rw[e])))
     ·rw[if_neg d2];have e:=e1 d2;exact dj (by rw[e];exact d2) (Ev.bind (jy T nx (by omega) hA) (eP (Ev.now _) (by rw[e])))
    ·refine dj (fun h=>d1 (hcode.symm.trans h)) (Ev.bind (jy T nx (by omega) hA) (eP (Ev.now _) ?_));rw[if_neg d1,hcode]
   ·have c2':(eM q).2.2=false:=by simpa using c2
    rw[c2'];exact bad (fun h=>c2 ((rb q).2 ⟨((mu T nx p q).1 h.1).2.2,h.2⟩))
  ·exact dj c0 (bad (fun h=>c0 ((mu T nx p q).1 h.1).2.1))
 ·exact dj c1 (bad (fun h=>c1 ((mu T nx p q).1 h.1).1))
end Go.Proofs.YtlecajlnjmbilaaGreatDoor.Q
