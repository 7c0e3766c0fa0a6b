/- What the functions that the law reaches answer, in plain words. No condition. -/
import Derived.Test.YtlecajlnjmbilaaGreatDoorKinds
import Derived.Test.YtlecajlnjmbilaaGreatDoorPx17
set_option linter.all false
namespace Go.Proofs.YtlecajlnjmbilaaGreatDoor.Q
open Go.RowKit Go.Proofs.ab.ar Go.Proofs.ab.aV Go.Proofs.ab.aZ
theorem aX {α:Type}{g:Nat→Option α}{r:α}(h:Ev (fun k=>g (k+1)) r):Ev g r:=by
 obtain⟨K,h⟩:=h;refine⟨K+1,fun n hn=> ?_⟩;obtain⟨m,rfl⟩:∃m,n=m+1:=⟨n-1,by omega⟩;exact h m (by omega)
theorem br {α:Type}{c:Prop} [Decidable c] {A B:Nat→Option α}{r:α}(hc:c) (h:Ev A r):Ev (fun k=>if c then A k else B k) r:=by
 simpa only[if_pos hc]using h
theorem du {α:Type}{c:Prop} [Decidable c] {A B:Nat→Option α}{r:α}(hc:¬c) (h:Ev B r):Ev (fun k=>if c then A k else B k) r:=by
 simpa only[if_neg hc]using h
theorem evI {α:Type}{c:Prop} [Decidable c] {A B:Nat→Option α}{r s:α}(hp:c→Ev A r) (hn:¬c→Ev B s):Ev (fun k=>if c then A k else B k) (if c then r else s):=by
 by_cases hc:c
 ·simpa only[if_pos hc]using hp hc
 ·simpa only[if_neg hc]using hn hc
theorem vl {α:Type}{c:Prop} [Decidable c] {A B:Nat→Option α}{r:α}(hp:c→Ev A r) (hn:¬c→Ev B r):Ev (fun k=>if c then A k else B k) r:=by
 by_cases hc:c
 ·simpa only[if_pos hc]using hp hc
 ·simpa only[if_neg hc]using hn hc
theorem eP {α:Type}{g:Nat→Option α}{r s:α}(h:Ev g r) (e:r=s):Ev g s:=e▸h
theorem lf {n:Int}(h0: -9223372036854775808≤n) (h1:n≤9223372036854775807):wrap64 n=n:=by
 unfold wrap64
 omega
theorem drop_cons (l:List Int) (i:Nat) (h:i<l.length):l.drop i=rd l i::l.drop (i+1):=by
 rw[List.drop_eq_getElem_cons h];simp[Go.Proofs.ab.ar.rd,List.getElem?_eq_getElem h]
theorem toList_data (s:ByteArray):s.toList=s.data.toList:=by
 simp[ByteArray.toList_eq]
end Go.Proofs.YtlecajlnjmbilaaGreatDoor.Q
namespace Go.Proofs.YtlecajlnjmbilaaGreatDoor.Q
open Go.RowKit Go.Proofs.YtlecajlnjmbilaaGreatDoor.P Go.Proofs.ab.ar Go.Proofs.ab.aV Go.Proofs.ab.aZ
def kG (c:Int):Bool:=decide (97≤c∧c≤122∨48≤c∧c≤57∨c=95∨c=45∨c=46)
def kP (s:ByteArray):Bool:=decide (1≤s.size∧s.size≤14)&&s.toList !=([46]:List UInt8)&&s.toList !=([46,46]:List UInt8)
def iV (s:ByteArray):Bool:=(bytesOf s).all kG&&kP s
theorem mw (a b c:Int):aN.f a b c=some (decide (b≤a∧a≤c)):=by
 unfold aN.f
 by_cases h:a≥b
 ·rw[if_pos h];simp[show b≤a from h]
 ·rw[if_neg h];simp[show¬b≤a from h]
theorem sQ (s:ByteArray):((aN.f (s.size:Int) 1 14).bind fun t101=>(if t101=true then(if s.toList=([46]:List UInt8)then(some false)else(some (s.toList !=([46,46]:List UInt8))))else(some false)))=some (kP s):=by
 rw[mw];simp only[Option.bind_some,kP]
 by_cases h:1≤s.size∧s.size≤14
 ·rw[if_pos (by simp;omega)]
  by_cases h1:s.toList=[46]
  ·simp[h1]
  ·rw[if_neg h1];simp[h,h1]
 ·rw[if_neg (by simp;omega)];simp[h]
theorem sR (s:ByteArray):(if(s.size:Int)≥1 then(if(s.size:Int)≤14 then(if s.toList=([46]:List UInt8)then(some false)else(some (s.toList !=([46,46]:List UInt8))))else(some false))else(some false))=some (kP s):=by
 unfold kP
 by_cases h:1≤s.size
 ·rw[if_pos (by omega)]
  by_cases h2:s.size≤14
  ·rw[if_pos (by omega)]
   by_cases h1:s.toList=[46]
   ·simp[h1]
   ·rw[if_neg h1];simp[h,h2,h1]
  ·rw[if_neg (by omega)];simp[h2]
 ·rw[if_neg (by omega)];simp[h]
theorem qV (s:ByteArray) (i:Nat) (h:i<s.size):(bytesOf s).drop i=bt s i::(bytesOf s).drop (i+1):=by
 rw[drop_cons _ _ (by rw[bytesOf_length];exact h),uI]
theorem qW (s:ByteArray) (hs:s.size≤9223372036854775807) (n:Nat):∀(i:Nat),i≤s.size→s.size-i=n→
  Ev (fun k=>aM.l0 k s i) (((bytesOf s).drop i).all kG&&kP s):=by
 induction n with
 |zero=>
  intro i hi hn
  apply aX
  simp only[aM.l0];refine du (by omega) ?_;rw[sQ,List.drop_eq_nil_of_le (by rw[bytesOf_length];omega)]
  simpa using Ev.now _
 |succ n ih=>
  intro i hi hn
  have hlt:i<s.size:=by omega
  have hr:=tz s i;have ih:=ih (i+1) (by omega) (by omega);rw[show((i+1:Nat):Int)=wrap64 ((i:Int)+1)from by rw[lf (by omega) (by omega)];simp]at ih
  apply aX
  simp only[aM.l0,mw,Option.bind_some];rw[qV s i hlt,List.all_cons];refine br (by omega) (br (by omega) ?_);rw[lf (by omega) (by omega)];generalize bt s i=c at*
  by_cases h1:97≤c∧c≤122
  ·refine br (by simp[h1]) (eP ih ?_);simp[kG,h1]
  refine du (by simp;omega) ?_
  by_cases h2:48≤c∧c≤57
  ·refine br (by simp[h2]) (eP ih ?_);simp[kG,h2]
  refine du (by simp;omega) ?_
  by_cases h3:c=95
  ·refine br h3 (eP ih ?_);simp[kG,h3]
  refine du h3 ?_
  by_cases h4:c=45
  ·refine br h4 (eP ih ?_);simp[kG,h4]
  refine du h4 ?_
  by_cases h5:c=46
  ·refine br h5 (eP ih ?_);simp[kG,h5]
  refine du h5 (eP (Ev.now _) ?_)
  have:kG c=false:=by simp[kG];omega
  simp[this]
theorem nR (s:ByteArray) (hs:s.size≤9223372036854775807):Ev (fun k=>aM.f k s) (iV s):=by
 have h:=qW s hs s.size 0 (by omega) (by omega)
 simpa [aM.f,iV]using h
theorem qX (s:ByteArray) (hs:s.size≤9223372036854775807) (n:Nat):∀(i:Nat),i≤s.size→s.size-i=n→
  Ev (fun k=>aA.l0 k s (s.size:Int) i) (((bytesOf s).drop i).all kG&&kP s):=by
 induction n with
 |zero=>
  intro i hi hn
  apply aX
  simp only[aA.l0];refine du (by omega) ?_;rw[sR,List.drop_eq_nil_of_le (by rw[bytesOf_length];omega)]
  simpa using Ev.now _
 |succ n ih=>
  intro i hi hn
  have hlt:i<s.size:=by omega
  have hr:=tz s i;have ih:=ih (i+1) (by omega) (by omega);rw[show((i+1:Nat):Int)=wrap64 ((i:Int)+1)from by rw[lf (by omega) (by omega)];simp]at ih
  apply aX
  simp only[aA.l0];rw[qV s i hlt,List.all_cons];refine br (by omega) (br (by omega) (br (by omega) ?_));generalize bt s i=c at*
  by_cases hg:kG c=true
  ·have e:(((bytesOf s).drop (i+1)).all kG&&kP s)=(kG c&&((bytesOf s).drop (i+1)).all kG&&kP s):=by simp[hg]
   replace ih:=eP ih e;simp only[kG,decide_eq_true_eq]at hg
   repeat(first|exact ih|refine vl (fun _=> ?_) (fun _=> ?_)|(exfalso;omega))
  ·have e:false=(kG c&&((bytesOf s).drop (i+1)).all kG&&kP s):=by simp[hg]
   have no:=eP (Ev.now false) e;simp only[kG,decide_eq_true_eq]at hg
   repeat(first|exact no|refine vl (fun _=> ?_) (fun _=> ?_)|(exfalso;omega))
theorem pI (s:ByteArray) (hs:s.size≤9223372036854775807):Ev (fun k=>aA.f k s) (iV s):=by
 have h:=qX s hs s.size 0 (by omega) (by omega)
 simpa [aA.f,iV]using h
end Go.Proofs.YtlecajlnjmbilaaGreatDoor.Q
namespace Go.Proofs.YtlecajlnjmbilaaGreatDoor.Q
open Go.RowKit Go.Proofs.YtlecajlnjmbilaaGreatDoor.P Go.Proofs.ab.ar Go.Proofs.ab.aV Go.Proofs.ab.aZ
theorem abf (l:List Int) (n i:Nat) (hn:n=l.length) (hi:i<n):(l.take i++List.replicate (n-i) 0).set i (rd l i)=l.take (i+1)++List.replicate (n-(i+1)) 0:=by
 subst hn;rw[List.set_append,if_neg (by rw[List.length_take];omega),show i-(l.take i).length=0 from by rw[List.length_take];omega];obtain⟨m,hm⟩:∃m,l.length-i=m+1:=⟨l.length-i-1,by omega⟩;rw[hm,List.replicate_succ,List.set_cons_zero,show l.length-(i+1)=m from by omega,List.take_succ_eq_append_getElem hi,List.append_assoc]
 have:rd l i=l[i]:=by simp[Go.Proofs.ab.ar.rd,List.getElem?_eq_getElem hi]
 rw[this]
 rfl
theorem sS (l:List Int) (hl:l.length≤9223372036854775807) (n:Nat):∀(i:Nat),i≤l.length→l.length-i=n→
  Ev (fun k=>dk.l0 k l (l.take i++List.replicate (l.length-i) 0) i) l:=by
 induction n with
 |zero=>
  intro i hi hn
  apply aX
  simp only[dk.l0];refine du (by omega) ?_;rw[List.take_of_length_le (by omega),hn]
  simpa using Ev.now l
 |succ n ih=>
  intro i hi hn;have ih:=ih (i+1) (by omega) (by omega);rw[show((i+1:Nat):Int)=wrap64 ((i:Int)+1)from by rw[lf (by omega) (by omega)];simp]at ih
  apply aX
  simp only[dk.l0];refine br (by omega) (br (by omega) (br (by simp[List.length_append,List.length_take];omega) ?_));rw[Int.toNat_natCast,abf l _ i rfl (by omega)];exact ih
theorem vo (l:List Int) (hl:l.length≤281474976710656):Ev (fun k=>dk.f k l) l:=by
 have h:=sS l (by omega) l.length 0 (by omega) (by omega)
 simpa [dk.f,hl]using h
theorem aca (a b:List Int) (i:Nat) (ha:i<a.length) (hb:i<b.length):decide (a.drop i=b.drop i)=(decide (rd a i=rd b i)&&decide (a.drop (i+1)=b.drop (i+1))):=by
 rw[drop_cons a i ha,drop_cons b i hb]
 by_cases h:rd a i=rd b i<;>simp[h]
theorem sU (a b:List Int) (hab:a.length=b.length) (hl:a.length≤9223372036854775807) (n:Nat):∀(i:Nat),i≤a.length→a.length-i=n→
  Ev (fun k=>da.l0 k a b i) (decide (a.drop i=b.drop i)):=by
 induction n with
 |zero=>
  intro i hi hn
  apply aX
  simp only[da.l0];refine du (by omega) ?_;rw[List.drop_eq_nil_of_le (by omega),List.drop_eq_nil_of_le (by omega)]
  simpa using Ev.now true
 |succ n ih=>
  intro i hi hn;have ih:=ih (i+1) (by omega) (by omega);rw[show((i+1:Nat):Int)=wrap64 ((i:Int)+1)from by rw[lf (by omega) (by omega)];simp]at ih
  apply aX
  simp only[da.l0];rw[aca a b i (by omega) (by omega)];refine br (by omega) (br (by omega) (br (by omega) ?_))
  by_cases h:rd a i=rd b i
  ·refine br h (eP ih ?_);simp[h]
  ·refine du h (eP (Ev.now _) ?_);simp[h]
theorem vp (a b:List Int) (hl:a.length≤9223372036854775807):Ev (fun k=>da.f k a b) (decide (a=b)):=by
 unfold da.f
 by_cases h:a.length=b.length
 ·have h1:=sU a b h hl a.length 0 (by omega) (by omega);refine br (by omega) ?_
  simpa using h1
 ·refine du (by omega) (eP (Ev.now _) ?_)
  have:a≠b:=fun e=>h (by rw[e])
  simp[this]
end Go.Proofs.YtlecajlnjmbilaaGreatDoor.Q
namespace Go.Proofs.YtlecajlnjmbilaaGreatDoor.Q
open Go.RowKit Go.Proofs.ab.ar Go.Proofs.ab.aV Go.Proofs.ab.aZ
theorem tX {α β:Type}(xs:List α) (f:α→β) (z:β) (i:Nat) (hi:i<xs.length):
  ((xs.take i).map f++List.replicate (xs.length-i) z).set i (f xs[i])=(xs.take (i+1)).map f++List.replicate (xs.length-(i+1)) z:=by
 rw[List.set_append,if_neg (by simp;omega)];obtain⟨m,hm⟩:∃m,xs.length-i=m+1:=⟨xs.length-i-1,by omega⟩;rw[hm,List.replicate_succ,show i-((xs.take i).map f).length=0 from by simp;omega,List.set_cons_zero,show xs.length-(i+1)=m from by omega,List.take_succ_eq_append_getElem hi,List.map_append,List.append_assoc]
 rfl
theorem sV {α β:Type}(L:Nat→List β→Int→Option (List β)) (xs:List α) (f:α→β) (z:β)
  (h1:∀ys:List β,Ev (fun k=>L k ys (xs.length:Nat)) ys)
  (h2:∀(i:Nat) (hi:i<xs.length) (ys:List β),ys.length=xs.length→∀R,Ev (fun k=>L k (ys.set i (f xs[i])) ((i+1:Nat):Int)) R→Ev (fun k=>L k ys (i:Nat)) R):
  Ev (fun k=>L k (List.replicate xs.length z) 0) (xs.map f):=by
 have key:∀n i:Nat,xs.length-i=n→i≤xs.length→Ev (fun k=>L k ((xs.take i).map f++List.replicate (xs.length-i) z) (i:Nat)) (xs.map f):=by
  intro n
  induction n with
  |zero=>
   intro i hn hi
   obtain rfl:i=xs.length:=by omega
   simpa using h1 (xs.map f)
  |succ n ih=>
   intro i hn hi;refine h2 i (by omega) _ (by simp;omega) _ ?_;rw[tX xs f z i (by omega)];exact ih (i+1) (by omega) (by omega)
 simpa using key xs.length 0 (by omega) (by omega)
theorem sW {γ:Type}(L:Nat→Int→Option γ) (n:Nat) (R:γ) (h1:Ev (fun k=>L k (n:Nat)) R) (h2:∀i:Nat,i<n→Ev (fun k=>L k ((i+1:Nat):Int)) R→Ev (fun k=>L k (i:Nat)) R):Ev (fun k=>L k 0) R:=by
 have key:∀m i:Nat,n-i=m→i≤n→Ev (fun k=>L k (i:Nat)) R:=by
  intro m
  induction m with
  |zero=>
   intro i hm hi
   obtain rfl:i=n:=by omega
   exact h1
  |succ m ih=>
   intro i hm hi;exact h2 i (by omega) (ih (i+1) (by omega) (by omega))
 simpa using key n 0 (by omega) (by omega)
theorem wm {α γ:Type}(L:Nat→Int→Option γ) (xs:List α) (F:List α→γ) (h1:Ev (fun k=>L k (xs.length:Nat)) (F []))
  (h2:∀(i:Nat) (hi:i<xs.length),Ev (fun k=>L k ((i+1:Nat):Int)) (F (xs.drop (i+1)))→Ev (fun k=>L k (i:Nat)) (F (xs[i]::xs.drop (i+1)))):Ev (fun k=>L k 0) (F xs):=by
 have key:∀m i:Nat,xs.length-i=m→i≤xs.length→Ev (fun k=>L k (i:Nat)) (F (xs.drop i)):=by
  intro m
  induction m with
  |zero=>
   intro i hm hi
   obtain rfl:i=xs.length:=by omega
   rw[List.drop_length];exact h1
  |succ m ih=>
   intro i hm hi;rw[List.drop_eq_getElem_cons (by omega)];exact h2 i (by omega) (ih (i+1) (by omega) (by omega))
 simpa using key xs.length 0 (by omega) (by omega)
theorem getD_at {α:Type}(xs:List α) (z:α) (i:Nat) (hi:i<xs.length):xs.getD ((i:Nat):Int).toNat z=xs[i]:=by
 simp[List.getD_eq_getElem?_getD,List.getElem?_eq_getElem hi]
theorem qY {γ:Type}(L:Nat→Int→Int→Option γ) (n:Nat) (I:Nat→Int→Prop) (Z:γ→Prop) (h1:∀a,I n a→∃R,Ev (fun k=>L k a (n:Nat)) R∧Z R)
  (h2:∀(i:Nat) (a:Int),i<n→I i a→(∃R,Ev (fun k=>L k a (i:Nat)) R∧Z R)∨∃b,I (i+1) b∧∀R,Ev (fun k=>L k b ((i+1:Nat):Int)) R→Ev (fun k=>L k a (i:Nat)) R) (a:Int) (ha:I 0 a):∃R,Ev (fun k=>L k a 0) R∧Z R:=by
 have key:∀m i:Nat,n-i=m→i≤n→∀a,I i a→∃R,Ev (fun k=>L k a (i:Nat)) R∧Z R:=by
  intro m
  induction m with
  |zero=>
   intro i hm hi a ha
   obtain rfl:i=n:=by omega
   exact h1 a ha
  |succ m ih=>
   intro i hm hi a ha;rcases h2 i a (by omega) ha with h|⟨b,hb,h⟩
   ·exact h
   ·obtain⟨R,hR,hZ⟩:=ih (i+1) (by omega) (by omega) b hb;exact⟨R,h R hR,hZ⟩
 simpa using key n 0 (by omega) (by omega) a ha
end Go.Proofs.YtlecajlnjmbilaaGreatDoor.Q
namespace Go.Proofs.YtlecajlnjmbilaaGreatDoor.Q
open Go.RowKit Go.Proofs.YtlecajlnjmbilaaGreatDoor.P Go.Proofs.ab.ar Go.Proofs.ab.aV Go.Proofs.ab.aZ
def marks (n:Nat) (k:Int):List Int:=(List.range n).map fun(i:Nat)=>(k+(i:Int))%256
theorem fG (n:Nat) (k:Int):(marks n k).length=n:=by simp[marks]
theorem abg (n:Nat) (k:Int) (i:Nat) (h:i<n):rd (marks n k) i=(k+i)%256:=by
 simp[Go.Proofs.ab.ar.rd,marks,h]
theorem abh (xs:List Int) (k:Int) (i:Nat) (h:i<xs.length):(marks i k++xs.drop i).set i ((k+i)%256)=marks (i+1) k++xs.drop (i+1):=by
 rw[List.set_append,if_neg (by rw[fG];omega),fG,Nat.sub_self,List.drop_eq_getElem_cons h,List.set_cons_zero];simp[marks,List.range_succ]
theorem wY (xs:List Int) (k0:Int) (hk:0≤k0) (hk1:k0+xs.length≤9223372036854775807) (n:Nat):∀(i:Nat),i≤xs.length→xs.length-i=n→
  Ev (fun k=>cP.l0 k (marks i k0++xs.drop i) (k0+i) i) (k0+xs.length,marks xs.length k0):=by
 induction n with
 |zero=>
  intro i hi hn
  apply aX
  simp only[cP.l0]
  obtain rfl:i=xs.length:=by omega
  refine du (by simp[fG]) (eP (Ev.now _) ?_);simp
 |succ n ih=>
  intro i hi hn;have ih:=ih (i+1) (by omega) (by omega);rw[show((i+1:Nat):Int)=(i:Int)+1 from by omega]at ih
  apply aX
  simp only[cP.l0];refine br (by simp[fG];omega) (br (by omega) ?_);rw[Int.toNat_natCast,abh xs k0 i (by omega),lf (n:=k0+(i:Int)+1) (by omega) (by omega),lf (n:=(i:Int)+1) (by omega) (by omega),Int.add_assoc];exact ih
theorem sX (xs:List Int) (k0:Int) (hk:0≤k0) (hk1:k0+xs.length≤9223372036854775807):Ev (fun k=>cP.f k xs k0) (k0+xs.length,marks xs.length k0):=by
 have h:=wY xs k0 hk hk1 xs.length 0 (by omega) (by omega)
 simpa [cP.f,marks]using h
theorem wZ (m:Nat) (k0:Int) (hk:0≤k0) (hk1:k0+m≤9223372036854775807) (n:Nat):∀(i:Nat),i≤m→m-i=n→
  Ev (fun k=>cY.l0 k (marks m k0) (k0+i) i) (k0+m):=by
 induction n with
 |zero=>
  intro i hi hn
  apply aX
  simp only[cY.l0]
  obtain rfl:i=m:=by omega
  exact du (by simp[fG]) (Ev.now _)
 |succ n ih=>
  intro i hi hn;have ih:=ih (i+1) (by omega) (by omega);rw[show((i+1:Nat):Int)=(i:Int)+1 from by omega]at ih
  apply aX
  simp only[cY.l0];refine br (by simp[fG];omega) (br (by omega) (br (abg m k0 i (by omega)) ?_));rw[lf (n:=k0+(i:Int)+1) (by omega) (by omega),lf (n:=(i:Int)+1) (by omega) (by omega),Int.add_assoc];exact ih
theorem sY (m:Nat) (k0:Int) (hk:0≤k0) (hk1:k0+m≤9223372036854775807):Ev (fun k=>cY.f k (marks m k0) k0) (k0+m):=by
 have h:=wZ m k0 hk hk1 m 0 (by omega) (by omega)
 simpa [cY.f]using h
end Go.Proofs.YtlecajlnjmbilaaGreatDoor.Q
namespace Go.Proofs.YtlecajlnjmbilaaGreatDoor.Q
open Go.RowKit Go.Proofs.YtlecajlnjmbilaaGreatDoor.P Go.Proofs.ab.ar Go.Proofs.ab.aV Go.Proofs.ab.aZ
def acb (x:jv):ed:=⟨x.f0,x.f1⟩
def wo (x:jw):eg:=⟨x.f0,x.f1⟩
theorem mn (i:Nat) (n:Nat) (hi:i<n) (hn:n≤9223372036854775807):wrap64 ((i:Int)+1)=((i+1:Nat):Int):=by
 rw[lf (by omega) (by omega)];omega
theorem w_ (l:List jv) (hl:l.length≤11728124029610):Ev (fun k=>ef.f k l) (l.map acb):=by
 unfold ef.f;refine br (by omega) (br (by omega) ?_);rw[Int.toNat_natCast];refine sV (fun k ys i=>ef.l0 k l ys i) l acb _ (fun ys=> ?_) (fun i hi ys hy R h=> ?_)
 ·apply aX
  simp only[ef.l0];exact du (by omega) (Ev.now _)
 ·apply aX
  simp only[ef.l0,kL.f,Option.bind_some];refine br (by omega) (br (by omega) (br (by omega) ?_));rw[mn i l.length hi (by omega),Int.toNat_natCast];simp only[g_,getD_at l _ i hi];exact h
theorem vq (l:List jw) (hl:l.length≤8796093022208):Ev (fun k=>dj.f k l) (l.map wo):=by
 unfold dj.f;refine br (by omega) (br (by omega) ?_);rw[Int.toNat_natCast];refine sV (fun k ys i=>dj.l0 k l ys i) l wo _ (fun ys=> ?_) (fun i hi ys hy R h=> ?_)
 ·apply aX
  simp only[dj.l0];exact du (by omega) (Ev.now _)
 ·apply aX
  simp only[dj.l0,kt.f,Option.bind_some];refine br (by omega) (br (by omega) (br (by omega) ?_));rw[mn i l.length hi (by omega),Int.toNat_natCast];simp only[gq,getD_at l _ i hi];exact h
theorem vr (a b c:Int) (d:List Int) (e:List jv) (t:List jw) (hd:d.length≤1048576) (he:e.length≤1048576) (ht:t.length≤1048576):
  Ev (fun k=>iU.f k a b c d e t) (a,b,c,d,e.map acb,t.map wo):=by
 unfold iU.f;exact Ev.bind (vo d (by omega)) (Ev.bind (w_ e (by omega)) (Ev.bind (vq t (by omega)) (Ev.now _)))
theorem tY (l:List ed) (hl:l.length≤9223372036854775807):Ev (fun k=>cy.f k l l) true:=by
 unfold cy.f;refine br rfl (sW (fun k i=>cy.l0 k l l i) l.length true ?_ (fun i hi h=> ?_))
 ·apply aX
  simp only[cy.l0];exact du (by omega) (Ev.now _)
 ·apply aX
  simp only[cy.l0,kr.f,if_true,Option.bind_some];refine br (by omega) (br (by omega) (br (by omega) ?_));rw[mn i l.length hi hl];exact h
theorem sZ (l:List eg) (hl:l.length≤9223372036854775807):Ev (fun k=>cl.f k l l) true:=by
 unfold cl.f;refine br rfl (sW (fun k i=>cl.l0 k l l i) l.length true ?_ (fun i hi h=> ?_))
 ·apply aX
  simp only[cl.l0];exact du (by omega) (Ev.now _)
 ·apply aX
  simp only[cl.l0,jk.f,if_true,Option.bind_some];refine br (by omega) (br (by omega) (br (by omega) ?_));rw[mn i l.length hi hl];exact h
theorem ta (a b c:Int) (d:List Int) (e:List ed) (t:List eg) (hd:d.length≤9223372036854775807) (he:e.length≤9223372036854775807) (ht:t.length≤9223372036854775807):
  Ev (fun k=>hJ.f k a b c d e t a b c d e t) true:=by
 unfold hJ.f;refine br rfl (br rfl (br rfl (Ev.bind (vp d d hd) (br (by simp) (Ev.bind (tY e he) (br rfl (Ev.bind (sZ t ht) (br rfl (Ev.now _)))))))))
theorem vt (d:List Int) (n:Int) (h0:0≤n) (h1:n≤1048576) (hd:d.length≤9223372036854775807):∃R,fE.f d n=some R∧(0≤R→R=n-d.length)∧R≤n:=by
 unfold fE.f;rw[lf (by omega) (by omega)]
 by_cases h:n-(d.length:Int)<0
 ·rw[if_pos h];exact⟨_,rfl,fun h=>by omega,by omega⟩
 ·rw[if_neg h];exact⟨_,rfl,fun _=>rfl,by omega⟩
def wq (l:List jv):Nat:=(l.map fun e=>e.f0.size).sum
def tb (l:List jw):Nat:=(l.map fun e=>e.f0.size+e.f1.size).sum
theorem qZ {α:Type}(f:α→Nat) (l:List α) (i:Nat) (hi:i<l.length):((l.take (i+1)).map f).sum=((l.take i).map f).sum+f l[i]:=by
 rw[List.take_succ_eq_append_getElem hi,List.map_append,List.sum_append];simp
theorem xa (l:List jv) (n:Int) (h0:0≤n) (h1:n≤1048576) (hl:l.length≤9223372036854775807) (hg:∀e∈l,e.f0.size≤9223372036854775807):
  ∃R,Ev (fun k=>d_.f k l n) R∧(0≤R→R=n-l.length-wq l)∧R≤n:=by
 unfold d_.f;rw[lf (by omega) (by omega)]
 by_cases h:n-(l.length:Int)<0
 ·exact⟨-1,br h (Ev.now _),fun h=>by omega,by omega⟩
 ·obtain⟨R,hR,hZ⟩:=qY (fun k a i=>d_.l0 k l a i) l.length (fun i a=>0≤a∧a=n-l.length-((l.take i).map fun e=>e.f0.size).sum) (fun R=>(0≤R→R=n-l.length-wq l)∧R≤n)
   (fun a ha=>⟨a,by
    apply aX
    simp only[d_.l0]
    exact du (by omega) (Ev.now _),fun _=>by rw[ha.2,List.take_length];rfl,by omega⟩)
   (fun i a hi ha=>by
    have hm:=hg l[i] (List.getElem_mem hi);have hs:=qZ (fun e:jv=>e.f0.size) l i hi
    by_cases hlt:a-(l[i].f0.size:Int)<0
    ·refine .inl ⟨-1,?_,fun h=>by omega,by omega⟩
     apply aX
     simp only[d_.l0,jl.f,g_,getD_at l _ i hi];rw[lf (n:=a-(l[i].f0.size:Int)) (by omega) (by omega),if_pos hlt];simp only[Option.bind_some];exact br (by omega) (br (by omega) (br (by omega) (Ev.now _)))
    ·refine .inr ⟨a-(l[i].f0.size:Int),⟨by omega,by rw[hs];omega⟩,fun R h=> ?_⟩
     apply aX
     simp only[d_.l0,jl.f,g_,getD_at l _ i hi];rw[lf (n:=a-(l[i].f0.size:Int)) (by omega) (by omega),if_neg hlt];simp only[Option.bind_some];refine br (by omega) (br (by omega) (du (by omega) ?_));rw[mn i l.length hi hl]
     exact h) (n-l.length) ⟨by omega,by simp⟩
  exact⟨R,du h hR,hZ⟩
theorem vu (l:List jw) (n:Int) (h0:0≤n) (h1:n≤1048576) (hl:l.length≤9223372036854775807) (hg:∀e∈l,e.f0.size≤9223372036854775807∧e.f1.size≤9223372036854775807):
  ∃R,Ev (fun k=>cZ.f k l n) R∧(0≤R→R=n-l.length-tb l)∧R≤n:=by
 unfold cZ.f;rw[lf (by omega) (by omega)]
 by_cases h:n-(l.length:Int)<0
 ·exact⟨-1,br h (Ev.now _),fun h=>by omega,by omega⟩
 ·obtain⟨R,hR,hZ⟩:=qY (fun k a i=>cZ.l0 k l a i) l.length (fun i a=>0≤a∧a=n-l.length-((l.take i).map fun e=>e.f0.size+e.f1.size).sum) (fun R=>(0≤R→R=n-l.length-tb l)∧R≤n)
   (fun a ha=>⟨a,by
    apply aX
    simp only[cZ.l0]
    exact du (by omega) (Ev.now _),fun _=>by rw[ha.2,List.take_length];rfl,by omega⟩)
   (fun i a hi ha=>by
    have hm:=hg l[i] (List.getElem_mem hi);have hs:=qZ (fun e:jw=>e.f0.size+e.f1.size) l i hi
    by_cases hlt:a-(l[i].f0.size:Int)<0
    ·refine .inl ⟨-1,?_,fun h=>by omega,by omega⟩
     apply aX
     simp only[cZ.l0,hI.f,gq,getD_at l _ i hi];rw[lf (n:=a-(l[i].f0.size:Int)) (by omega) (by omega),if_pos hlt];simp only[Option.bind_some];exact br (by omega) (br (by omega) (br (by omega) (Ev.now _)))
    ·by_cases hlt2:a-(l[i].f0.size:Int)-(l[i].f1.size:Int)<0
     ·refine .inl ⟨-1,?_,fun h=>by omega,by omega⟩
      apply aX
      simp only[cZ.l0,hI.f,gq,getD_at l _ i hi];rw[lf (n:=a-(l[i].f0.size:Int)) (by omega) (by omega),if_neg hlt,lf (n:=a-(l[i].f0.size:Int)-(l[i].f1.size:Int)) (by omega) (by omega),if_pos hlt2];simp only[Option.bind_some];exact br (by omega) (br (by omega) (br (by omega) (Ev.now _)))
     ·refine .inr ⟨a-(l[i].f0.size:Int)-(l[i].f1.size:Int),⟨by omega,by rw[hs];omega⟩,fun R h=> ?_⟩
      apply aX
      simp only[cZ.l0,hI.f,gq,getD_at l _ i hi];rw[lf (n:=a-(l[i].f0.size:Int)) (by omega) (by omega),if_neg hlt,lf (n:=a-(l[i].f0.size:Int)-(l[i].f1.size:Int)) (by omega) (by omega),if_neg hlt2];simp only[Option.bind_some];refine br (by omega) (br (by omega) (du (by omega) ?_));rw[mn i l.length hi hl]
      exact h) (n-l.length) ⟨by omega,by simp⟩
  exact⟨R,du h hR,hZ⟩
def ph (d:List Int) (e:List jv) (t:List jw):Nat:=d.length+e.length+wq e+t.length+tb t
theorem vv (a b c:Int) (d:List Int) (e:List jv) (t:List jw) (n:Int) (h0:0≤n) (h1:n≤1048576) (hd:d.length≤9223372036854775807) (he:e.length≤9223372036854775807) (ht:t.length≤9223372036854775807)
  (ge:∀x∈e,x.f0.size≤9223372036854775807) (gt:∀x∈t,x.f0.size≤9223372036854775807∧x.f1.size≤9223372036854775807):
  ∃R,Ev (fun k=>hL.f k a b c d e t n) R∧(0≤R→R=n-ph d e t)∧R≤n:=by
 unfold hL.f;obtain⟨R1,e1,z1,l1⟩:=vt d n h0 h1 hd;simp only[e1,Option.bind_some]
 by_cases c1:R1<0
 ·exact⟨-1,br c1 (Ev.now _),fun h=>by omega,by omega⟩
 obtain⟨R2,e2,z2,l2⟩:=xa e R1 (by omega) (by omega) he ge
 by_cases c2:R2<0
 ·exact⟨-1,du c1 (Ev.bind e2 (br c2 (Ev.now _))),fun h=>by omega,by omega⟩
 obtain⟨R3,e3,z3,l3⟩:=vu t R2 (by omega) (by omega) ht gt
 by_cases c3:R3<0
 ·exact⟨-1,du c1 (Ev.bind e2 (du c2 (Ev.bind e3 (br c3 (Ev.now _))))),fun h=>by omega,by omega⟩
 ·refine⟨R3,du c1 (Ev.bind e2 (du c2 (Ev.bind e3 (du c3 (Ev.now _))))),fun h=> ?_,by omega⟩;have:=z1 (by omega);have:=z2 (by omega);have:=z3 (by omega);unfold ph
  omega
end Go.Proofs.YtlecajlnjmbilaaGreatDoor.Q
namespace Go.Proofs.YtlecajlnjmbilaaGreatDoor.Q
open Go.RowKit Go.Proofs.YtlecajlnjmbilaaGreatDoor.P Go.Proofs.ab.ar Go.Proofs.ab.aV Go.Proofs.ab.aZ
theorem down {n:Nat}{P:Nat→Prop}(h1:P n) (h2:∀i,i<n→P (i+1)→P i):P 0:=by
 have key:∀m i:Nat,n-i=m→i≤n→P i:=by
  intro m
  induction m with
  |zero=>
   intro i hm hi
   obtain rfl:i=n:=by omega
   exact h1
  |succ m ih=>intro i hm hi;exact h2 i (by omega) (ih (i+1) (by omega) (by omega))
 exact key n 0 (by omega) (by omega)
def jm (x:ma):bg:=⟨x.f0,x.f1,x.f2,x.f3,x.f4.map acb,x.f5.map wo⟩
def adr (x:ma):Prop:=x.f3.length≤1048576∧x.f4.length≤1048576∧x.f5.length≤1048576
theorem tZ (l:List ma) (hl:l.length≤1048576) (hb:∀x∈l,adr x):Ev (fun k=>cU.f k l) (l.map jm):=by
 unfold cU.f;refine br (by omega) (br (by omega) ?_);rw[Int.toNat_natCast];refine sV (fun k ys i=>cU.l0 k l ys i) l jm _ (fun ys=> ?_) (fun i hi ys hy R h=> ?_)
 ·apply aX
  simp only[cU.l0];exact du (by omega) (Ev.now _)
 ·have hB:=hb l[i] (List.getElem_mem hi);have ht:=vr l[i].f0 l[i].f1 l[i].f2 l[i].f3 l[i].f4 l[i].f5 hB.1 hB.2.1 hB.2.2
  apply aX
  simp only[cU.l0,cD,getD_at l _ i hi];refine br (by omega) (br (by omega) (Ev.bind ht (br (by omega) ?_)));rw[mn i l.length hi (by omega),Int.toNat_natCast];exact h
theorem aba (l:List ma) (n:Int) (hl:l.length≤1048576) (hb:∀x∈l,adr x):Ev (fun k=>ie.f k l n) (l.map jm,n):=by
 unfold ie.f;exact Ev.bind (tZ l hl hb) (Ev.now _)
theorem rG (l:List bg) (hl:l.length≤9223372036854775807) (hb:∀x∈l,x.f3.length≤9223372036854775807∧x.f4.length≤9223372036854775807∧x.f5.length≤9223372036854775807):Ev (fun k=>bx.f k l l) true:=by
 unfold bx.f;refine br rfl ?_;refine sW (fun k i=>bx.l0 k l l i) l.length true ?_ (fun i hi h=> ?_)
 ·apply aX
  simp only[bx.l0];exact du (by omega) (Ev.now _)
 ·have hB:=hb l[i] (List.getElem_mem hi)
  apply aX
  simp only[bx.l0,af,getD_at l _ i hi];refine br (by omega) (br (by omega) (br (by omega) (Ev.bind (ta _ _ _ _ _ _ hB.1 hB.2.1 hB.2.2) (br rfl ?_))));rw[mn i l.length hi hl];exact h
theorem q_ (l:List bg) (n:Int) (hl:l.length≤9223372036854775807) (hb:∀x∈l,x.f3.length≤9223372036854775807∧x.f4.length≤9223372036854775807∧x.f5.length≤9223372036854775807):Ev (fun k=>fu.f k l n l n) true:=by
 unfold fu.f;exact Ev.bind (rG l hl hb) (br rfl (br rfl (Ev.now _)))
def ads (x:ma):Prop:=x.f3.length≤9223372036854775807∧x.f4.length≤9223372036854775807∧x.f5.length≤9223372036854775807∧(∀e∈x.f4,e.f0.size≤9223372036854775807)∧(∀e∈x.f5,e.f0.size≤9223372036854775807∧e.f1.size≤9223372036854775807)
def pj (x:ma):Nat:=ph x.f3 x.f4 x.f5
def qa (l:List ma):Nat:=l.length+(l.map pj).sum
theorem t_ (l:List ma) (n:Int) (h0:0≤n) (h1:n≤1048576) (hl:l.length≤9223372036854775807) (hg:∀x∈l,ads x):
  ∃R,Ev (fun k=>cV.f k l n) R∧(0≤R→R=n-qa l)∧R≤n:=by
 unfold cV.f;rw[lf (by omega) (by omega)]
 by_cases h:n-(l.length:Int)<0
 ·exact⟨-1,br h (Ev.now _),fun h=>by omega,by omega⟩
 ·obtain⟨R,hR,hZ⟩:=qY (fun k a i=>cV.l0 k l a i) l.length (fun i a=>0≤a∧a≤n∧a=n-l.length-((l.take i).map pj).sum) (fun R=>(0≤R→R=n-qa l)∧R≤n)
   (fun a ha=>⟨a,by
    apply aX
    simp only[cV.l0]
    exact du (by omega) (Ev.now _),fun _=>by rw[ha.2.2,List.take_length];unfold qa;omega,by omega⟩)
   (fun i a hi ha=>by
    obtain⟨m1,m2,m3,m4,m5⟩:=hg l[i] (List.getElem_mem hi);have hs:=qZ pj l i hi;obtain⟨R1,e1,z1,l1⟩:=vv l[i].f0 l[i].f1 l[i].f2 l[i].f3 l[i].f4 l[i].f5 a ha.1 (by omega) m1 m2 m3 m4 m5
    by_cases hlt:R1<0
    ·refine .inl ⟨-1,?_,fun h=>by omega,by omega⟩
     apply aX
     simp only[cV.l0,cD,getD_at l _ i hi];exact br (by omega) (br (by omega) (Ev.bind e1 (br hlt (Ev.now _))))
    ·have z1:=z1 (by omega);refine .inr ⟨R1,⟨by omega,by omega,by rw[hs];unfold pj at*;omega⟩,fun R h=> ?_⟩
     apply aX
     simp only[cV.l0,cD,getD_at l _ i hi];refine br (by omega) (br (by omega) (Ev.bind e1 (du hlt ?_)));rw[mn i l.length hi hl]
     exact h) (n-l.length) ⟨by omega,by omega,by simp⟩
  exact⟨R,du h hR,hZ⟩
theorem aa9 (l:List ma) (nx n:Int) (h0:0≤n) (h1:n≤1048576) (hl:l.length≤9223372036854775807) (hg:∀x∈l,ads x):
  ∃R,Ev (fun k=>jf.f k l nx n) R∧(0≤R→R=n-qa l)∧R≤n:=by
 obtain⟨R,e,z,h⟩:=t_ l n h0 h1 hl hg;unfold jf.f
 by_cases c:R<0
 ·exact⟨-1,Ev.bind e (br c (Ev.now _)),fun h=>by omega,by omega⟩
 ·exact⟨R,Ev.bind e (du c (Ev.now _)),z,h⟩
theorem oJ {α:Type}(f:α→Nat) (l:List α) (x:α) (h:x∈l):f x≤(l.map f).sum:=by
 induction l with
 |nil=>cases h
 |cons y l ih=>
  rw[List.map_cons,List.sum_cons];rcases List.mem_cons.1 h with rfl|h
  ·omega
  ·have:=ih h;omega
structure acd (x:ma):Prop where
 d:x.f3.length≤1048576
 e:x.f4.length≤1048576
 t:x.f5.length≤1048576
 en:∀y∈x.f4,y.f0.size≤1048576
 tn:∀y∈x.f5,y.f0.size≤1048576∧y.f1.size≤1048576
theorem ace (x:ma) (h:pj x≤1048576):acd x:=by
 unfold pj ph at h;refine⟨by omega,by omega,by omega,fun y hy=> ?_,fun y hy=> ?_⟩
 ·have:=oJ (fun e:jv=>e.f0.size) x.f4 y hy;unfold wq at h
  omega
 ·have:=oJ (fun e:jw=>e.f0.size+e.f1.size) x.f5 y hy;unfold tb at h
  omega
theorem wX (l:List ma) (h:qa l≤1048576):l.length≤1048576∧∀x∈l,acd x:=by
 unfold qa at h;refine⟨by omega,fun x hx=>ace x ?_⟩;have:=oJ pj l x hx
 omega
end Go.Proofs.YtlecajlnjmbilaaGreatDoor.Q
namespace Go.Proofs.YtlecajlnjmbilaaGreatDoor.Q
open Go.RowKit Go.Proofs.YtlecajlnjmbilaaGreatDoor.P Go.Proofs.YtlecajlnjmbilaaGreatDoor.Kinds Go.Proofs.ab.ar Go.Proofs.ab.aV Go.Proofs.ab.aZ
theorem aa_ (l:List ma) (h:∀x∈l,g92 x):∀x∈l,ads x:=by
 intro x hx;obtain⟨_,_,_,⟨hd,_⟩,⟨he,ge⟩,⟨ht,gt⟩⟩:=h x hx;have hM:maxLen=9223372036854775807:=rfl;simp only[hM]at*;exact⟨hd,he,ht,fun e h=>(ge e h).1,fun e h=>gt e h⟩
theorem ab8 (l:List ma) (h:∀x∈l,acd x):∀x∈l,adr x:=fun x hx=>⟨(h x hx).d,(h x hx).e,(h x hx).t⟩
end Go.Proofs.YtlecajlnjmbilaaGreatDoor.Q
namespace Go.Proofs.YtlecajlnjmbilaaGreatDoor.Q
open Go.RowKit Go.Proofs.YtlecajlnjmbilaaGreatDoor.P Go.Proofs.ab.ar Go.Proofs.ab.aV Go.Proofs.ab.aZ
def adY (a b:ByteArray):Bool:=Op.bytesLess a.toList b.toList
def upTo (p:Option ByteArray) (s:ByteArray):Bool:=match p with|none=>true|some q=>adY q s
def nj:Option ByteArray→List ed→Bool
 |_,[]=>true
 |p,e::l=>iV e.f0&&decide (2≤e.f1∧e.f1≤1000)&&upTo p e.f0&&nj (some e.f0) l
def lW:Option ByteArray→List eg→Bool
 |_,[]=>true
 |p,e::l=>iV e.f0&&decide (1≤e.f1.size∧e.f1.size≤16)&&upTo p e.f0&&lW (some e.f0) l
def jb (l:List ed) (i:Nat):Option ByteArray:=if i=0 then none else some (al l ((i:Int)-1)).f0
def ib (l:List eg) (i:Nat):Option ByteArray:=if i=0 then none else some (an l ((i:Int)-1)).f0
theorem pk (l:List ed) (i:Nat) (h:i<l.length):jb l (i+1)=some l[i].f0:=by
 unfold jb;rw[if_neg (by omega),show(((i+1:Nat):Int)-1)=(i:Int)from by omega,al,getD_at l _ i h]
theorem om (l:List eg) (i:Nat) (h:i<l.length):ib l (i+1)=some l[i].f0:=by
 unfold ib;rw[if_neg (by omega),show(((i+1:Nat):Int)-1)=(i:Int)from by omega,an,getD_at l _ i h]
def pJ (l:List ed):Bool:=nj none l&&decide (l.length≤10)
def mx (l:List eg):Bool:=lW none l&&decide (l.length≤4)
theorem xb (l:List ed) (hl:l.length≤1048576) (hn:∀e∈l,e.f0.size≤1048576):Ev (fun k=>dp.f k l) (pJ l):=by
 have key:Ev (fun k=>dp.l0 k l (0:Nat)) (nj (jb l 0) (l.drop 0)&&decide (l.length≤10)):=by
  refine down (n:=l.length) (P:=fun i=>Ev (fun k=>dp.l0 k l (i:Nat)) (nj (jb l i) (l.drop i)&&decide (l.length≤10))) ?_ (fun i hi h=> ?_)
  ·rw[List.drop_length]
   apply aX
   simp only[dp.l0,nj];refine du (by omega) (eP (Ev.now _) ?_);simp;omega
  ·rw[List.drop_eq_getElem_cons hi];rw[pk l i hi]at h
   apply aX
   simp only[dp.l0];refine br (by omega) ?_;have hname:=nR l[i].f0 (by have:=hn _ (List.getElem_mem hi);omega);have hrd:al l (i:Int)=l[i]:=getD_at l _ i hi;rw[hrd,mn i l.length hi (by omega)];simp only[nj,mw,Option.bind_some];refine br (by omega) (Ev.bind hname ?_)
   by_cases c1:iV l[i].f0=true
   ·refine br c1 ?_
    by_cases c2:2≤l[i].f1∧l[i].f1≤1000
    ·refine br (by simp[c2]) ?_
     by_cases c3:i=0
     ·subst c3;refine du (by omega) (eP h ?_);simp[c1,c2,jb,upTo]
     ·rw[lf (n:=(i:Int)-1) (by omega) (by omega)]
      have hu:upTo (jb l i) l[i].f0=Op.bytesLess (al l ((i:Int)-1)).f0.toList l[i].f0.toList:=by unfold jb;rw[if_neg c3];rfl
      refine br (by omega) (br (by omega) (br (by omega) ?_))
      by_cases c4:Op.bytesLess (al l ((i:Int)-1)).f0.toList l[i].f0.toList=true
      ·refine br c4 (eP h ?_);simp[c1,c2,hu,c4]
      ·refine du c4 (eP (Ev.now _) ?_);simp[hu,c4]
    ·refine du (by simp;omega) (eP (Ev.now _) ?_);have:decide (2≤l[i].f1∧l[i].f1≤1000)=false:=decide_eq_false c2;simp[this]
   ·refine du c1 (eP (Ev.now _) ?_);simp[c1]
 simpa [dp.f,pJ,jb]using key
theorem vw (l:List eg) (hl:l.length≤1048576) (hn:∀e∈l,e.f0.size≤1048576):Ev (fun k=>db.f k l) (mx l):=by
 have key:Ev (fun k=>db.l0 k l (0:Nat)) (lW (ib l 0) (l.drop 0)&&decide (l.length≤4)):=by
  refine down (n:=l.length) (P:=fun i=>Ev (fun k=>db.l0 k l (i:Nat)) (lW (ib l i) (l.drop i)&&decide (l.length≤4))) ?_ (fun i hi h=> ?_)
  ·rw[List.drop_length]
   apply aX
   simp only[db.l0,lW];refine du (by omega) (eP (Ev.now _) ?_);simp;omega
  ·rw[List.drop_eq_getElem_cons hi];rw[om l i hi]at h
   apply aX
   simp only[db.l0];refine br (by omega) ?_;have hname:=nR l[i].f0 (by have:=hn _ (List.getElem_mem hi);omega);have hrd:an l (i:Int)=l[i]:=getD_at l _ i hi;rw[hrd,mn i l.length hi (by omega)];simp only[lW,mw,Option.bind_some];refine br (by omega) (Ev.bind hname ?_)
   by_cases c1:iV l[i].f0=true
   ·refine br c1 ?_
    by_cases c2:1≤l[i].f1.size∧l[i].f1.size≤16
    ·refine br (by simp;omega) ?_
     by_cases c3:i=0
     ·subst c3;refine du (by omega) (eP h ?_);simp[c1,c2,ib,upTo]
     ·rw[lf (n:=(i:Int)-1) (by omega) (by omega)]
      have hu:upTo (ib l i) l[i].f0=Op.bytesLess (an l ((i:Int)-1)).f0.toList l[i].f0.toList:=by unfold ib;rw[if_neg c3];rfl
      refine br (by omega) (br (by omega) (br (by omega) ?_))
      by_cases c4:Op.bytesLess (an l ((i:Int)-1)).f0.toList l[i].f0.toList=true
      ·refine br c4 (eP h ?_);simp[c1,c2,hu,c4]
      ·refine du c4 (eP (Ev.now _) ?_);simp[hu,c4]
    ·refine du (by simp;omega) (eP (Ev.now _) ?_);have:decide (1≤l[i].f1.size∧l[i].f1.size≤16)=false:=decide_eq_false c2;simp[this]
   ·refine du c1 (eP (Ev.now _) ?_);simp[c1]
 simpa [db.f,mx,ib]using key
theorem pl (a b c:Int):bj.f a b c=some (decide (b≤a∧a≤c)):=by
 unfold bj.f
 by_cases h:a≥b
 ·rw[if_pos h];simp[show b≤a from h]
 ·rw[if_neg h];simp[show¬b≤a from h]
theorem vx (l:List eg) (hl:l.length≤1048576) (hn:∀e∈l,e.f0.size≤1048576):Ev (fun k=>cO.f k l) (mx l):=by
 have key:Ev (fun k=>cO.l0 k l l (l.length:Int) (0:Nat)) (lW (ib l 0) (l.drop 0)&&decide (l.length≤4)):=by
  refine down (n:=l.length) (P:=fun i=>Ev (fun k=>cO.l0 k l l (l.length:Int) (i:Nat)) (lW (ib l i) (l.drop i)&&decide (l.length≤4))) ?_ (fun i hi h=> ?_)
  ·rw[List.drop_length]
   apply aX
   simp only[cO.l0,lW];refine du (by omega) (eP (Ev.now _) ?_);simp;omega
  ·rw[List.drop_eq_getElem_cons hi];rw[om l i hi]at h
   apply aX
   simp only[cO.l0];refine br (by omega) ?_;have hname:=pI l[i].f0 (by have:=hn _ (List.getElem_mem hi);omega);have hrd:an l (i:Int)=l[i]:=getD_at l _ i hi;rw[hrd,mn i l.length hi (by omega)];simp only[lW,pl,Option.bind_some];refine br (by omega) (br (by omega) (Ev.bind hname ?_))
   by_cases c1:iV l[i].f0=true
   ·refine br c1 ?_
    by_cases c2:1≤l[i].f1.size∧l[i].f1.size≤16
    ·refine br (by simp;omega) ?_
     by_cases c3:i=0
     ·subst c3;refine du (by omega) (eP h ?_);simp[c1,c2,ib,upTo]
     ·rw[lf (n:=(i:Int)-1) (by omega) (by omega)]
      have hu:upTo (ib l i) l[i].f0=Op.bytesLess (an l ((i:Int)-1)).f0.toList l[i].f0.toList:=by unfold ib;rw[if_neg c3];rfl
      refine br (by omega) (br (by omega) (br (by omega) ?_))
      by_cases c4:Op.bytesLess (an l ((i:Int)-1)).f0.toList l[i].f0.toList=true
      ·refine br c4 (eP h ?_);simp[c1,c2,hu,c4]
      ·refine du c4 (eP (Ev.now _) ?_);simp[hu,c4]
    ·refine du (by simp;omega) (eP (Ev.now _) ?_);have:decide (1≤l[i].f1.size∧l[i].f1.size≤16)=false:=decide_eq_false c2;simp[this]
   ·refine du c1 (eP (Ev.now _) ?_);simp[c1]
 simpa [cO.f,mx,ib]using key
def kindOk (b c:Int) (d:List Int) (e:List ed):Bool:=if b=1 then e.length==0 else if b=2 then d.length==0&&decide (c≤1)else false
def iu (a b c:Int) (d:List Int) (e:List ed) (t:List eg):Bool:=
 decide (1≤a∧a≤1000)&&decide (0≤c∧c≤1000)&&((c==0)==(a==1))&&decide (d.length≤100)&&pJ e&&mx t&&kindOk b c d e
theorem pK (b c:Int) (d:List Int) (e:List ed):(if b=1 then(some ((e.length:Int)==0))else(if b=2 then(if(d.length:Int)=0 then(some (decide (c≤1)))else(some false))else(some false)))=some (kindOk b c d e):=by
 unfold kindOk
 have h1:((e.length:Int)==0)=(e.length==0):=by rw[Bool.eq_iff_iff];simp only[beq_iff_eq];omega
 by_cases hb:b=1
 ·rw[if_pos hb,if_pos hb,h1]
 ·rw[if_neg hb,if_neg hb]
  by_cases hb2:b=2
  ·rw[if_pos hb2,if_pos hb2]
   by_cases hd:d.length=0
   ·rw[if_pos (by omega)];simp[hd]
   ·rw[if_neg (by omega)];simp[hd]
  ·rw[if_neg hb2,if_neg hb2]
theorem pL (x y:Bool):(x !=y)= !(x==y):=rfl
theorem tc (a b c:Int) (d:List Int) (e:List ed) (t:List eg) (he:e.length≤1048576) (ht:t.length≤1048576) (hen:∀x∈e,x.f0.size≤1048576) (htn:∀x∈t,x.f0.size≤1048576):
  Ev (fun k=>cH.f k a b c d e t) (iu a b c d e t):=by
 unfold cH.f;simp only[mw,Option.bind_some]
 have no:∀r:Bool,r=false→Ev (fun k=>cH.j0 k true a b c d e t) r:=by
  intro r hr
  try(apply aX;simp only[cH.j0,pK])
  exact br (by simp) (eP (Ev.now _) hr.symm)
 by_cases c1:1≤a∧a≤1000
 ·refine br (by simp[c1]) ?_
  by_cases c2:0≤c∧c≤1000
  ·refine br (by simp[c2]) ?_
   by_cases c3:((c==0)==(a==1))=true
   ·refine du (by rw[pL,c3];simp) ?_
    by_cases c4:d.length≤100
    ·refine du (by omega) (Ev.bind (xb e he hen) ?_)
     by_cases c5:pJ e=true
     ·refine br c5 (Ev.bind (vw t ht htn) ?_)
      try(apply aX;simp only[cH.j0,pK])
      by_cases c6:mx t=true
      ·refine du (by simp[c6]) ?_;refine eP (Ev.now _) ?_;unfold iu;simp only[c1,c2,c3,c4,c5,c6,and_self,decide_true,Bool.true_and]
      ·refine br (by simp[c6]) (eP (Ev.now _) ?_);simp[iu,c6]
     ·exact du c5 (no _ (by simp[iu,c5]))
    ·exact br (by omega) (no _ (by simp[iu,c4]))
   ·refine br (by rw[pL];simpa using c3) (no _ ?_);unfold iu;rw[Bool.not_eq_true]at c3;simp[c3]
  ·refine du (by simp;omega) (no _ ?_);have:decide (0≤c∧c≤1000)=false:=decide_eq_false c2;simp[iu,this]
 ·refine du (by simp;omega) (no _ ?_);have:decide (1≤a∧a≤1000)=false:=decide_eq_false c1;simp[iu,this]
theorem qo (a b c:Int) (d:List Int) (l:List ed) (t:List eg) (hl:l.length≤1048576) (hn:∀x∈l,x.f0.size≤1048576):
  Ev (fun k=>bf.l0 k l (l.length:Int) 0 a b c d l t) (nj none l&&(decide (0≤c∧c≤1000)&&((c==0)==(a==1))&&kindOk b c d l)):=by
 generalize hE:(decide (0≤c∧c≤1000)&&((c==0)==(a==1))&&kindOk b c d l)=E
 have key:Ev (fun k=>bf.l0 k l (l.length:Int) (0:Nat) a b c d l t) (nj (jb l 0) (l.drop 0)&&E):=by
  refine down (n:=l.length) (P:=fun i=>Ev (fun k=>bf.l0 k l (l.length:Int) (i:Nat) a b c d l t) (nj (jb l i) (l.drop i)&&E)) ?_ (fun i hi h=> ?_)
  ·rw[List.drop_length]
   apply aX
   simp only[bf.l0,nj,pl,Option.bind_some];refine du (by omega) ?_
   have fin:∀x:Bool,(x= !(((c==0)==(a==1))&&decide (0≤c∧c≤1000)))→Ev (fun k=>bf.j2 k x a b c d l t) (true&&E):=by
    intro x hx
    try(apply aX;simp only[bf.j2,pK])
    by_cases cx:x=true
    ·refine br cx (eP (Ev.now _) ?_);rw[cx]at hx
     have:(((c==0)==(a==1))&&decide (0≤c∧c≤1000))=false:=by
      cases hz:(((c==0)==(a==1))&&decide (0≤c∧c≤1000))with
      |false=>rfl
      |true=>rw[hz]at hx;exact absurd hx (by decide)
     rw[←hE,Bool.and_comm (decide _),this];simp
    ·refine du cx ?_;refine eP (Ev.now _) ?_
     have:(((c==0)==(a==1))&&decide (0≤c∧c≤1000))=true:=by cases hz:(((c==0)==(a==1))&&decide (0≤c∧c≤1000))<;>simp_all
     rw[←hE,Bool.and_comm (decide _),this];simp
   by_cases c2:0≤c∧c≤1000
   ·exact br (by simp[c2]) (fin _ (by rw[pL];simp[c2]))
   ·exact du (by simp;omega) (fin _ (by have:decide (0≤c∧c≤1000)=false:=decide_eq_false c2;simp[this]))
  ·rw[List.drop_eq_getElem_cons hi];rw[pk l i hi]at h
   apply aX
   simp only[bf.l0];refine br (by omega) ?_;have hname:=pI l[i].f0 (by have:=hn _ (List.getElem_mem hi);omega);have hrd:al l (i:Int)=l[i]:=getD_at l _ i hi;rw[hrd,mn i l.length hi (by omega)];simp only[nj,pl,Option.bind_some];refine br (by omega) (br (by omega) (Ev.bind hname ?_))
   by_cases c1:iV l[i].f0=true
   ·refine br c1 ?_
    by_cases c2:2≤l[i].f1∧l[i].f1≤1000
    ·refine br (by simp[c2]) ?_
     by_cases c3:i=0
     ·subst c3;refine du (by omega) (eP h ?_);simp[c1,c2,jb,upTo]
     ·rw[lf (n:=(i:Int)-1) (by omega) (by omega)]
      have hu:upTo (jb l i) l[i].f0=Op.bytesLess (al l ((i:Int)-1)).f0.toList l[i].f0.toList:=by unfold jb;rw[if_neg c3];rfl
      refine br (by omega) (br (by omega) (br (by omega) ?_))
      by_cases c4:Op.bytesLess (al l ((i:Int)-1)).f0.toList l[i].f0.toList=true
      ·refine br c4 (eP h ?_);simp[c1,c2,hu,c4]
      ·refine du c4 (eP (Ev.now _) ?_);simp[hu,c4]
    ·refine du (by simp;omega) (eP (Ev.now _) ?_);have:decide (2≤l[i].f1∧l[i].f1≤1000)=false:=decide_eq_false c2;simp[this]
   ·refine du c1 (eP (Ev.now _) ?_);simp[c1]
 simpa [jb]using key
theorem td (a b c:Int) (d:List Int) (e:List ed) (t:List eg) (he:e.length≤1048576) (ht:t.length≤1048576) (hen:∀x∈e,x.f0.size≤1048576) (htn:∀x∈t,x.f0.size≤1048576):
  Ev (fun k=>bf.f k a b c d e t) (iu a b c d e t):=by
 unfold bf.f;simp only[pl,Option.bind_some]
 have no:∀r:Bool,r=false→Ev (fun k=>bf.j0 k true a b c d e t) r:=by
  intro r hr
  try(apply aX;simp only[bf.j0])
  exact br (by simp) (eP (Ev.now _) hr.symm)
 by_cases c1:1≤a∧a≤1000
 ·refine br (by simp[c1]) ?_
  by_cases c4:d.length≤100
  ·refine du (by omega) ?_
   by_cases c5:e.length≤10
   ·refine du (by omega) (Ev.bind (vx t ht htn) ?_)
    try(apply aX;simp only[bf.j0])
    by_cases c6:mx t=true
    ·refine du (by simp[c6]) ?_;refine eP (qo a b c d e t he hen) ?_;unfold iu pJ;simp only[c1,c4,c5,c6,and_self,decide_true,Bool.true_and,Bool.and_true]
     cases nj none e<;>cases decide (0≤c∧c≤1000)<;>cases ((c==0)==(a==1))<;>cases kindOk b c d e<;>rfl
    ·refine br (by simp[c6]) (eP (Ev.now _) ?_);simp[iu,c6]
   ·exact br (by omega) (no _ (by simp[iu,pJ,c5]))
  ·exact br (by omega) (no _ (by simp[iu,c4]))
 ·refine du (by simp;omega) (no _ ?_);have:decide (1≤a∧a≤1000)=false:=decide_eq_false c1;simp[iu,this]
end Go.Proofs.YtlecajlnjmbilaaGreatDoor.Q
namespace Go.Proofs.YtlecajlnjmbilaaGreatDoor.Q
open Go.RowKit Go.Proofs.YtlecajlnjmbilaaGreatDoor.P Go.Proofs.ab.ar Go.Proofs.ab.aV Go.Proofs.ab.aZ
def abi (x:bg):Bool:=iu x.f0 x.f1 x.f2 x.f3 x.f4 x.f5
def above (p:Option Int) (n:Int):Bool:=match p with|none=>true|some q=>decide (q<n)
def kA (nx:Int):Option Int→List bg→Bool
 |_,[]=>true
 |p,x::l=>abi x&&decide (x.f0<nx)&&above p x.f0&&kA nx (some x.f0) l
def jc (l:List bg) (i:Nat):Option Int:=if i=0 then none else some (af l ((i:Int)-1)).f0
theorem pn (l:List bg) (i:Nat) (h:i<l.length):jc l (i+1)=some l[i].f0:=by
 unfold jc;rw[if_neg (by omega),show(((i+1:Nat):Int)-1)=(i:Int)from by omega,af,getD_at l _ i h]
structure po (x:bg):Prop where
 d:x.f3.length≤1048576
 e:x.f4.length≤1048576
 t:x.f5.length≤1048576
 en:∀y∈x.f4,y.f0.size≤1048576
 tn:∀y∈x.f5,y.f0.size≤1048576
theorem abj (x:bg) (h:abi x=true):1≤x.f0:=by
 unfold abi iu at h;simp only[Bool.and_eq_true,decide_eq_true_eq]at h
 omega
theorem vy (nx:Int) (l:List bg):∀(q:Int) (i:Nat),1≤q→kA nx (some q) l=true→cz 1 l i= -1:=by
 induction l with
 |nil=>intros;rfl
 |cons x l ih=>
  intro q i hq h;simp only[kA,above,Bool.and_eq_true,decide_eq_true_eq]at h;rw[cz,if_neg (by omega)];exact ih x.f0 (i+1) (by omega) h.2
theorem vz (nx:Int) (x:bg) (l:List bg) (h:kA nx none (x::l)=true):cz 1 (x::l) 0=if x.f0=1 then 0 else-1:=by
 simp only[kA,Bool.and_eq_true,decide_eq_true_eq]at h;rw[cz]
 split
 ·rfl
 ·exact vy nx l x.f0 1 (abj x h.1.1.1) h.2
def nF (l:List bg):Bool:=decide ((af l 0).f0=1)&&((af l 0).f1==2)
theorem rH (l:List bg) (nx:Int) (hl:l.length≤1048576) (hs:∀x∈l,po x) (hp:0<l.length):
  Ev (fun k=>bp.l0 k 0 l nx) (kA nx none l&&nF l):=by
 have key:Ev (fun k=>bp.l0 k (0:Nat) l nx) (kA nx (jc l 0) (l.drop 0)&&nF l):=by
  refine down (n:=l.length) (P:=fun i=>Ev (fun k=>bp.l0 k (i:Nat) l nx) (kA nx (jc l i) (l.drop i)&&nF l)) ?_ (fun i hi h=> ?_)
  ·rw[List.drop_length]
   apply aX
   simp only[bp.l0,kA];refine du (by omega) (br (by omega) ?_)
   by_cases c:(af l 0).f0=1
   ·exact br c (eP (Ev.now _) (by simp[nF,c]))
   ·exact du c (eP (Ev.now _) (by simp[nF,c]))
  ·rw[List.drop_eq_getElem_cons hi];rw[pn l i hi]at h;have hT:=hs l[i] (List.getElem_mem hi);have ho:=tc l[i].f0 l[i].f1 l[i].f2 l[i].f3 l[i].f4 l[i].f5 hT.e hT.t hT.en hT.tn;have hrd:af l (i:Int)=l[i]:=getD_at l _ i hi
   apply aX
   simp only[bp.l0,hrd];rw[mn i l.length hi (by omega)];refine br (by omega) (br (by omega) (Ev.bind ho ?_))
   by_cases c1:abi l[i]=true
   ·refine br c1 ?_
    by_cases c2:l[i].f0<nx
    ·refine du (by omega) ?_
     by_cases c3:i=0
     ·subst c3;refine du (by omega) (eP h ?_);simp[kA,c1,c2,jc,above]
     ·rw[lf (n:=(i:Int)-1) (by omega) (by omega)];refine br (by omega) (br (by omega) (br (by omega) ?_))
      have hu:above (jc l i) l[i].f0=decide ((af l ((i:Int)-1)).f0<l[i].f0):=by unfold jc;rw[if_neg c3];rfl
      by_cases c4:(af l ((i:Int)-1)).f0<l[i].f0
      ·refine du (by omega) (eP h ?_);simp[kA,c1,c2,hu,c4]
      ·refine br (by omega) (eP (Ev.now _) ?_);simp[kA,hu,c4]
    ·refine br (by omega) (eP (Ev.now _) ?_);simp[kA,c2]
   ·refine du c1 (eP (Ev.now _) ?_);simp[kA,c1]
 simpa [jc]using key
theorem rI (l:List bg) (nx:Int) (hl:l.length≤1048576) (hs:∀x∈l,po x) (E:Bool) (hE:Ev (fun k=>(cK.f k l nx 1).bind fun bt=>(if bt.2.2.2.2.2.2=true then(some (bt.2.1==2))else(some false))) E):
  Ev (fun k=>bo.l0 k l (l.length:Int) 0 l nx) (kA nx none l&&E):=by
 have key:Ev (fun k=>bo.l0 k l (l.length:Int) (0:Nat) l nx) (kA nx (jc l 0) (l.drop 0)&&E):=by
  refine down (n:=l.length) (P:=fun i=>Ev (fun k=>bo.l0 k l (l.length:Int) (i:Nat) l nx) (kA nx (jc l i) (l.drop i)&&E)) ?_ (fun i hi h=> ?_)
  ·rw[List.drop_length]
   apply aX
   simp only[bo.l0,kA];exact du (by omega) (eP hE (by simp))
  ·rw[List.drop_eq_getElem_cons hi];rw[pn l i hi]at h;have hT:=hs l[i] (List.getElem_mem hi);have ho:=td l[i].f0 l[i].f1 l[i].f2 l[i].f3 l[i].f4 l[i].f5 hT.e hT.t hT.en hT.tn;have hrd:af l (i:Int)=l[i]:=getD_at l _ i hi
   apply aX
   simp only[bo.l0,hrd];rw[mn i l.length hi (by omega)];refine br (by omega) (br (by omega) (br (by omega) (Ev.bind ho ?_)))
   by_cases c1:abi l[i]=true
   ·refine br c1 ?_
    by_cases c2:l[i].f0<nx
    ·refine du (by omega) ?_
     by_cases c3:i=0
     ·subst c3;refine du (by omega) (eP h ?_);simp[kA,c1,c2,jc,above]
     ·rw[lf (n:=(i:Int)-1) (by omega) (by omega)];refine br (by omega) (br (by omega) (br (by omega) ?_))
      have hu:above (jc l i) l[i].f0=decide ((af l ((i:Int)-1)).f0<l[i].f0):=by unfold jc;rw[if_neg c3];rfl
      by_cases c4:(af l ((i:Int)-1)).f0<l[i].f0
      ·refine du (by omega) (eP h ?_);simp[kA,c1,c2,hu,c4]
      ·refine br (by omega) (eP (Ev.now _) ?_);simp[kA,hu,c4]
    ·refine br (by omega) (eP (Ev.now _) ?_);simp[kA,c2]
   ·refine du c1 (eP (Ev.now _) ?_);simp[kA,c1]
 simpa [jc]using key
theorem vA (x:bg) (h:po x):ek.f x.f0 x.f1 x.f2 x.f3 x.f4 x.f5=some (x.f0,x.f1,x.f2,x.f3,x.f4,x.f5):=by
 have hd:=h.d;have he:=h.e;have ht:=h.t
 have a:cw.f x.f3=some x.f3:=by unfold cw.f;simp;omega
 have b:dg.f x.f4=some x.f4:=by unfold dg.f;simp;omega
 have c:cS.f x.f5=some x.f5:=by unfold cS.f;simp;omega
 unfold ek.f;rw[a,Option.bind_some,b,Option.bind_some,c,Option.bind_some]
def pq (l:List bg) (nx:Int):Bool:=decide (1≤l.length∧l.length≤30)&&decide (2≤nx∧nx≤1000)&&(kA nx none l&&nF l)
theorem te (ino:Int) (l:List bg):∀i:Nat,cz ino l i= -1∨((i:Int)≤cz ino l i∧cz ino l i<i+l.length):=by
 induction l with
 |nil=>intro i;exact .inl rfl
 |cons x l ih=>
  intro i;rw[cz]
  split
  ·right;simp only[List.length_cons];omega
  ·rcases ih (i+1)with h|h
   ·exact .inl h
   ·right;simp only[List.length_cons];omega
def atOk (l:List bg):Bool:=if cz 1 l 0<0 then false else((af l (cz 1 l 0)).f1==2)
theorem at_one (l:List bg) (nx:Int) (hl:l.length≤1048576) (hs:∀x∈l,po x):
  Ev (fun k=>(cK.f k l nx 1).bind fun bt=>(if bt.2.2.2.2.2.2=true then(some (bt.2.1==2))else(some false))) (atOk l):=by
 unfold cK.f eh.f atOk;rw[if_pos (by omega)];simp only[Option.bind_some]
 by_cases c:cz 1 l 0<0
 ·simp only[if_pos c,Option.bind_some];exact Ev.now _
 ·simp only[if_neg c];have hr:=te 1 l 0;obtain⟨n,hn⟩:∃n:Nat,cz 1 l 0=n:=⟨(cz 1 l 0).toNat,by omega⟩;rw[hn]at hr c⊢
  have hlt:n<l.length:=by omega
  have hrd:af l (n:Int)=l[n]:=getD_at l _ n hlt;simp only[hrd,vA l[n] (hs _ (List.getElem_mem hlt)),Option.bind_some];rw[if_pos (by omega),if_pos (by omega)];simp only[Option.bind_some,if_true];exact Ev.now _
theorem acf (nx:Int) (l:List bg) (hp:0<l.length):(kA nx none l&&atOk l)=(kA nx none l&&nF l):=by
 cases h:kA nx none l with
 |false=>rfl
 |true=>
  cases l with
  |nil=>simp at hp
  |cons x l=>
   have hh:=vz nx x l h;simp only[Bool.true_and,atOk,nF,hh];have h0:af (x::l) 0=x:=rfl
   by_cases c:x.f0=1
   ·simp[c,h0]
   ·simp[c,h0]
theorem vB (l:List bg) (nx:Int) (hl:l.length≤1048576) (hs:∀x∈l,po x):Ev (fun k=>bp.f k l nx) (pq l nx):=by
 unfold bp.f pq;simp only[mw,Option.bind_some]
 have no:∀r:Bool,r=false→Ev (fun k=>bp.j0 k true l nx) r:=by
  intro r hr
  apply aX
  simp only[bp.j0];exact br (by simp) (eP (Ev.now _) hr.symm)
 by_cases c1:1≤l.length∧l.length≤30
 ·refine br (by simp;omega) ?_
  by_cases c2:2≤nx∧nx≤1000
  ·apply aX
   simp only[bp.j0];refine du (by simp[c2]) (eP (rH l nx hl hs (by omega)) ?_);simp[c1,c2]
  ·rw[show decide (2≤nx∧nx≤1000)=false from decide_eq_false c2];exact no _ (by simp)
 ·refine du (by simp;omega) (no _ ?_);rw[show decide (1≤l.length∧l.length≤30)=false from decide_eq_false c1]
  rfl
theorem vC (l:List bg) (nx:Int) (hl:l.length≤1048576) (hs:∀x∈l,po x):Ev (fun k=>bo.f k l nx) (pq l nx):=by
 unfold bo.f pq;simp only[pl,Option.bind_some]
 have no:∀r:Bool,r=false→Ev (fun k=>bo.j0 k true l nx) r:=by
  intro r hr
  apply aX
  simp only[bo.j0];exact br (by simp) (eP (Ev.now _) hr.symm)
 by_cases c1:l.length≤30
 ·refine du (by omega) ?_
  by_cases c2:2≤nx∧nx≤1000
  ·apply aX
   simp only[bo.j0];refine du (by simp[c2]) (eP (rI l nx hl hs _ (at_one l nx hl hs)) ?_)
   by_cases c0:1≤l.length
   ·rw[acf nx l c0];simp[c0,c1,c2]
   ·obtain rfl:l=[]:=List.eq_nil_of_length_eq_zero (by omega);simp[kA,atOk,cz]
  ·rw[show decide (2≤nx∧nx≤1000)=false from decide_eq_false c2];exact no _ (by simp)
 ·refine br (by omega) (no _ ?_);rw[show decide (1≤l.length∧l.length≤30)=false from decide_eq_false (by omega)]
  rfl
end Go.Proofs.YtlecajlnjmbilaaGreatDoor.Q
namespace Go.Proofs.YtlecajlnjmbilaaGreatDoor.Q
open Go.RowKit Go.Proofs.YtlecajlnjmbilaaGreatDoor.P Go.Proofs.ab.ar Go.Proofs.ab.aV Go.Proofs.ab.aZ
def fe (n:Int) (e:List ed):Nat:=(e.filter fun x=>decide (x.f1=n)).length
def fW (n:Int) (x:bg):Nat:=if x.f1=2 then fe n x.f4 else 0
def ez (n:Int) (l:List bg):Nat:=(l.map (fW n)).sum
theorem oo (n:Int) (e:List ed) (j:Nat) (hj:j<e.length):fe n (e.drop j)=(if e[j].f1=n then 1 else 0)+fe n (e.drop (j+1)):=by
 unfold fe;rw[List.drop_eq_getElem_cons hj,List.filter_cons]
 by_cases h:e[j].f1=n
 ·rw[if_pos (by simpa using h),if_pos h,List.length_cons];omega
 ·rw[if_neg (by simpa using h),if_neg h];omega
theorem pr (n:Int) (l:List bg) (j:Nat) (hj:j<l.length):ez n (l.drop j)=fW n l[j]+ez n (l.drop (j+1)):=by
 unfold ez;rw[List.drop_eq_getElem_cons hj,List.map_cons,List.sum_cons]
theorem vD (L:List bg) (nx n:Int) (hl:L.length≤1048576) (hs:∀x∈L,x.f4.length≤1048576) (hu:ez n L≤4611686018427387904):Ev (fun k=>bd.f k L nx n) (ez n L:Int):=by
 have key:∀acc:Nat,acc+ez n (L.drop 0)≤4611686018427387904→Ev (fun k=>bd.l0 k n (acc:Int) (0:Nat) L nx) ((acc+ez n (L.drop 0):Nat):Int):=by
  refine down (n:=L.length) (P:=fun i=>∀acc:Nat,acc+ez n (L.drop i)≤4611686018427387904→Ev (fun k=>bd.l0 k n (acc:Int) (i:Nat) L nx) ((acc+ez n (L.drop i):Nat):Int)) ?_ (fun i hi ih=> ?_)
  ·intro acc _;rw[List.drop_length]
   apply aX
   simp only[bd.l0];exact du (by omega) (eP (Ev.now _) (by simp[ez]))
  ·intro acc hb;rw[pr n L i hi]at hb⊢;have hx:=hs _ (List.getElem_mem hi);have ih:=ih (acc+fW n L[i]) (by omega);rw[←mn i L.length hi (by omega)]at ih;have ih:Ev (fun k=>bd.l0 k n ((acc+fW n L[i]:Nat):Int) (wrap64 ((i:Int)+1)) L nx) ((acc+(fW n L[i]+ez n (L.drop (i+1))):Nat):Int):=eP ih (by omega);generalize ((acc+(fW n L[i]+ez n (L.drop (i+1))):Nat):Int)=R at ih⊢
   apply aX
   simp only[bd.l0];refine br (by omega) ?_;have hrd:af L (i:Int)=L[i]:=getD_at L _ i hi
   have go:∀acc j,Ev (fun k=>bd.l0 k n acc (wrap64 ((i:Int)+1)) L nx) R→Ev (fun k=>bd.j2 k n acc i j false L nx) R:=by
    intro acc j h
    apply aX
    simp only[bd.j2];exact du (by simp) h
   by_cases hk:L[i].f1=2
   ·unfold fW at ih hb;rw[if_pos hk]at ih hb
    have inner:∀acc:Nat,acc+fe n (L[i].f4.drop 0)≤4611686018427387904→Ev (fun k=>bd.l0 k n ((acc+fe n (L[i].f4.drop 0):Nat):Int) (wrap64 ((i:Int)+1)) L nx) R→Ev (fun k=>bd.l1 k n (acc:Int) i (0:Nat) L nx) R:=by
     refine down (n:=L[i].f4.length) (P:=fun j=>∀acc:Nat,acc+fe n (L[i].f4.drop j)≤4611686018427387904→Ev (fun k=>bd.l0 k n ((acc+fe n (L[i].f4.drop j):Nat):Int) (wrap64 ((i:Int)+1)) L nx) R→Ev (fun k=>bd.l1 k n (acc:Int) i (j:Nat) L nx) R) ?_ (fun j hj ihj=> ?_)
     ·intro acc _ h;rw[List.drop_length]at h
      apply aX
      simp only[bd.l1,hrd];exact br (by omega) (br (by omega) (du (by omega) (go _ _ (by simpa [fe]using h))))
     ·intro acc hb h;rw[oo n _ j hj]at hb h
      apply aX
      simp only[bd.l1,hrd];refine br (by omega) (br (by omega) (br (by omega) ?_))
      apply aX
      simp only[bd.j2,hrd];have hrj:al L[i].f4 (j:Int)=L[i].f4[j]:=getD_at L[i].f4 _ j hj;refine br (by simp[hk]) (br (by omega) (br (by omega) (br (by omega) (br (by omega) ?_))));rw[hrj,mn j L[i].f4.length hj (by omega)]
      by_cases he:L[i].f4[j].f1=n
      ·rw[if_pos he]at hb h;refine br he ?_;rw[lf (n:=(acc:Int)+1) (by omega) (by omega)];have:=ihj (acc+1) (by omega) (by rw[show acc+1+fe n (L[i].f4.drop (j+1))=acc+(1+fe n (L[i].f4.drop (j+1)))from by omega];exact h)
       simpa using this
      ·rw[if_neg he]at hb h;refine du he (ihj acc (by omega) ?_)
       simpa using h
    exact inner acc (by simp only[List.drop_zero];omega) (by simpa using ih)
   ·unfold fW at ih;rw[if_neg hk]at ih
    apply aX
    simp only[bd.l1,hrd];refine br (by omega) (br (by omega) (vl (fun _=> ?_) (fun _=>go _ _ (by simpa using ih))));rw[show(L[i].f1==2)=false from by simp[hk]];exact go _ _ (by simpa using ih)
 have:=key 0 (by simpa using hu)
 simpa [bd.f]using this
theorem vE (L:List bg) (nx n:Int) (hl:L.length≤1048576) (hs:∀x∈L,x.f4.length≤1048576) (hu:ez n L≤4611686018427387904):Ev (fun k=>bw.f k L nx n) (ez n L:Int):=by
 have key:∀acc:Nat,acc+ez n (L.drop 0)≤4611686018427387904→Ev (fun k=>bw.l0 k n (acc:Int) L (L.length:Int) (0:Nat)) ((acc+ez n (L.drop 0):Nat):Int):=by
  refine down (n:=L.length) (P:=fun i=>∀acc:Nat,acc+ez n (L.drop i)≤4611686018427387904→Ev (fun k=>bw.l0 k n (acc:Int) L (L.length:Int) (i:Nat)) ((acc+ez n (L.drop i):Nat):Int)) ?_ (fun i hi ih=> ?_)
  ·intro acc _;rw[List.drop_length]
   apply aX
   simp only[bw.l0];exact du (by omega) (eP (Ev.now _) (by simp[ez]))
  ·intro acc hb;rw[pr n L i hi]at hb⊢;have hx:=hs _ (List.getElem_mem hi);have ih:=ih (acc+fW n L[i]) (by omega);rw[←mn i L.length hi (by omega)]at ih;have ih:Ev (fun k=>bw.l0 k n ((acc+fW n L[i]:Nat):Int) L (L.length:Int) (wrap64 ((i:Int)+1))) ((acc+(fW n L[i]+ez n (L.drop (i+1))):Nat):Int):=eP ih (by omega);generalize ((acc+(fW n L[i]+ez n (L.drop (i+1))):Nat):Int)=R at ih⊢
   apply aX
   have hrd:af L (i:Int)=L[i]:=getD_at L _ i hi;simp only[bw.l0,hrd];refine br (by omega) ?_;refine br (by omega) (br (by omega) ?_)
   by_cases hk:L[i].f1=2
   ·unfold fW at ih hb;rw[if_pos hk]at ih hb;refine br hk ?_
    have inner:∀acc:Nat,acc+fe n (L[i].f4.drop 0)≤4611686018427387904→Ev (fun k=>bw.l0 k n ((acc+fe n (L[i].f4.drop 0):Nat):Int) L (L.length:Int) (wrap64 ((i:Int)+1))) R→Ev (fun k=>bw.l1 k n (acc:Int) L (L.length:Int) i L[i].f4 (L[i].f4.length:Int) (0:Nat)) R:=by
     refine down (n:=L[i].f4.length) (P:=fun j=>∀acc:Nat,acc+fe n (L[i].f4.drop j)≤4611686018427387904→Ev (fun k=>bw.l0 k n ((acc+fe n (L[i].f4.drop j):Nat):Int) L (L.length:Int) (wrap64 ((i:Int)+1))) R→Ev (fun k=>bw.l1 k n (acc:Int) L (L.length:Int) i L[i].f4 (L[i].f4.length:Int) (j:Nat)) R) ?_ (fun j hj ihj=> ?_)
     ·intro acc _ h;rw[List.drop_length]at h
      apply aX
      simp only[bw.l1];exact du (by omega) (by simpa [fe]using h)
     ·intro acc hb h;rw[oo n _ j hj]at hb h
      apply aX
      simp only[bw.l1];have hrj:al L[i].f4 (j:Int)=L[i].f4[j]:=getD_at L[i].f4 _ j hj;refine br (by omega) (br (by omega) (br (by omega) ?_));rw[hrj,mn j L[i].f4.length hj (by omega)]
      by_cases he:L[i].f4[j].f1=n
      ·rw[if_pos he]at hb h;refine br he ?_;rw[lf (n:=(acc:Int)+1) (by omega) (by omega)];have:=ihj (acc+1) (by omega) (by rw[show acc+1+fe n (L[i].f4.drop (j+1))=acc+(1+fe n (L[i].f4.drop (j+1)))from by omega];exact h)
       simpa using this
      ·rw[if_neg he]at hb h;refine du he (ihj acc (by omega) ?_)
       simpa using h
    exact inner acc (by simp only[List.drop_zero];omega) (by simpa using ih)
   ·unfold fW at ih;rw[if_neg hk]at ih;exact du hk (by simpa using ih)
 have:=key 0 (by simpa using hu)
 simpa [bw.f]using this
end Go.Proofs.YtlecajlnjmbilaaGreatDoor.Q
namespace Go.Proofs.YtlecajlnjmbilaaGreatDoor.Q
open Go.RowKit Go.Proofs.YtlecajlnjmbilaaGreatDoor.P Go.Proofs.ab.ar Go.Proofs.ab.aV Go.Proofs.ab.aZ
theorem ua (l:List Int):(strOfNums l).size=l.length:=by
 simp[strOfNums,ByteArray.size]
theorem vF (m:Nat):∀(n:Int) (s:ByteArray),0≤n→n≤9223372036854775807→n<10^m→s.size+m≤1000→∃r,Ev (fun k=>ba.l0 k n s) r:=by
 induction m with
 |zero=>
  intro n s h0 _ h1 hs;refine⟨(⟨#[109]⟩:ByteArray)++s,aX ?_⟩;simp only[ba.l0];exact du (by omega) (br (by omega) (Ev.now _))
 |succ m ih=>
  intro n s h0 hM h1 hs
  by_cases hn:n>0
  ·have hd:wrap64 (Int.tdiv n 10)=n/10:=by rw[Int.tdiv_eq_ediv_of_nonneg h0];exact lf (by omega) (by omega)
   obtain⟨r,hr⟩:=ih (n/10) ((strOfNums [wrap64 (48+Int.tmod n 10)%256])++s) (by omega) (by omega) (by rw[Int.pow_succ]at h1;omega) (by rw[ByteArray.size_append,ua];simp;omega);refine⟨r,aX ?_⟩;simp only[ba.l0,Option.bind_some,hd];exact br hn (br (by rw[ua];simp;omega) hr)
  ·refine⟨(⟨#[109]⟩:ByteArray)++s,aX ?_⟩;simp only[ba.l0];exact du hn (br (by omega) (Ev.now _))
theorem abk (n:Int) (h0:1≤n) (h1:n≤9223372036854775807):∃r,Ev (fun k=>ba.f k n) r:=by
 obtain⟨r,h⟩:=vF 19 n ⟨#[]⟩ (by omega) h1 (by omega) (by decide);exact⟨r,by unfold ba.f;exact du (by omega) h⟩
theorem qb {α:Type}(y:List α) (i:Nat) (v:α) (h:i<y.length):(y.set i v).take (i+1)=y.take i++[v]:=by
 rw[List.take_succ_eq_append_getElem (by simpa using h),List.getElem_set_self,List.take_set_of_le (Nat.le_refl i)]
def sd:Int→List ed→Prop
 |_,[]=>True
 |a,x::l=>Ev (fun k=>ba.f k a) x.f0∧x.f1=a+1∧sd (a+2) l
def se:Int→List eg→Prop
 |_,[]=>True
 |a,x::l=>Ev (fun k=>ba.f k a) x.f0∧Ev (fun k=>ba.f k (a+1)) x.f1∧se (a+2) l
theorem abl (l:List ed):∀(a:Int) (i:Nat) (h:i<l.length),sd a l→Ev (fun k=>ba.f k (a+2*i)) l[i].f0∧l[i].f1=a+2*i+1:=by
 induction l with
 |nil=>intro a i h;simp at h
 |cons x l ih=>
  intro a i h hh
  cases i with
  |zero=>exact⟨by simpa using hh.1,by simpa using hh.2.1⟩
  |succ i=>
   obtain⟨h1,h2⟩:=ih (a+2) i (by simpa using h) hh.2.2;rw[show a+2+2*(i:Int)=a+2*((i+1:Nat):Int)from by omega]at h1 h2;exact⟨h1,h2⟩
theorem abm (l:List eg):∀(a:Int) (i:Nat) (h:i<l.length),se a l→Ev (fun k=>ba.f k (a+2*i)) l[i].f0∧Ev (fun k=>ba.f k (a+2*i+1)) l[i].f1:=by
 induction l with
 |nil=>intro a i h;simp at h
 |cons x l ih=>
  intro a i h hh
  cases i with
  |zero=>exact⟨by simpa using hh.1,by simpa using hh.2.1⟩
  |succ i=>
   obtain⟨h1,h2⟩:=ih (a+2) i (by simpa using h) hh.2.2;rw[show a+2+2*(i:Int)=a+2*((i+1:Nat):Int)from by omega]at h1 h2;exact⟨h1,h2⟩
theorem abn (l:List ed) (a:Int) (h0:1≤a) (h1:a+2*l.length≤4611686018427387904) (hh:sd a l):Ev (fun k=>bs.f k l a) (a+2*l.length):=by
 have key:=down (n:=l.length) (P:=fun i=>Ev (fun k=>bs.l0 k l (a+2*i) (i:Nat)) (a+2*l.length)) (by
   apply aX
   simp only[bs.l0]
   exact du (by omega) (Ev.now _)) (fun i hi h=>by
   obtain⟨g1,g2⟩:=abl l a i hi hh;have hrd:al l (i:Int)=l[i]:=getD_at l _ i hi
   apply aX
   simp only[bs.l0,hrd];rw[lf (n:=a+2*(i:Int)+1) (by omega) (by omega),lf (n:=a+2*(i:Int)+1+1) (by omega) (by omega),mn i l.length hi (by omega)];refine br (by omega) (br (by omega) (Ev.bind g1 (br rfl (br g2 ?_))));rw[show a+2*(i:Int)+1+1=a+2*((i+1:Nat):Int)from by omega]
   exact h)
 simpa [bs.f]using key
theorem xc (l:List eg) (a:Int) (h0:1≤a) (h1:a+2*l.length≤4611686018427387904) (hh:se a l):Ev (fun k=>aJ.f k l a) (a+2*l.length):=by
 have key:=down (n:=l.length) (P:=fun i=>Ev (fun k=>aJ.l0 k l (a+2*i) (i:Nat)) (a+2*l.length)) (by
   apply aX
   simp only[aJ.l0]
   exact du (by omega) (Ev.now _)) (fun i hi h=>by
   obtain⟨g1,g2⟩:=abm l a i hi hh;have hrd:an l (i:Int)=l[i]:=getD_at l _ i hi
   apply aX
   simp only[aJ.l0,hrd];rw[lf (n:=a+2*(i:Int)+1) (by omega) (by omega),lf (n:=a+2*(i:Int)+1+1) (by omega) (by omega),mn i l.length hi (by omega)];refine br (by omega) (br (by omega) (Ev.bind g1 (br rfl (Ev.bind g2 (br rfl ?_)))));rw[show a+2*(i:Int)+1+1=a+2*((i+1:Nat):Int)from by omega]
   exact h)
 simpa [aJ.f]using key
theorem abo (l:List ed) (x:Int) (h0:1≤x) (h1:x+2*l.length≤4611686018427387904):∃r,Ev (fun k=>cT.f k l x) (x+2*l.length,r)∧r.length=l.length∧sd x r:=by
 have key:=down (n:=l.length) (P:=fun i=>∀y:List ed,y.length=l.length→∃r,Ev (fun k=>cT.l0 k y (x+2*i) (i:Nat)) (x+2*l.length,y.take i++r)∧i+r.length=l.length∧sd (x+2*i) r) (by
   intro y hy;refine⟨[],aX ?_,by simp,trivial⟩;simp only[cT.l0];refine du (by omega) (eP (Ev.now _) ?_)
   rw[←hy,List.take_length,List.append_nil]) (by
   intro i hi h y hy;obtain⟨s,hs⟩:=abk (x+2*i) (by omega) (by omega);obtain⟨r,hr,hl,hh⟩:=h (((y.set i (⟨s,(al y (i:Nat)).f1⟩:ed)).set i (⟨(al (y.set i (⟨s,(al y (i:Nat)).f1⟩:ed)) (i:Nat)).f0,x+2*i+1⟩:ed))) (by simp[hy])
   have e0:(al (y.set i (⟨s,(al y (i:Nat)).f1⟩:ed)) (i:Nat)).f0=s:=by rw[al,getD_at _ _ i (by simpa using(by omega:i<y.length)),List.getElem_set_self]
   have e1:=e0;refine⟨⟨s,x+2*i+1⟩::r,aX ?_,by simp;omega,hs,rfl,by rw[show x+2*(i:Int)+2=x+2*((i+1:Nat):Int)from by omega];exact hh⟩;simp only[cT.l0,Option.bind_some];refine br (by omega) (Ev.bind hs (br (by omega) ?_));rw[lf (n:=x+2*(i:Int)+1) (by omega) (by omega),lf (n:=x+2*(i:Int)+1+1) (by omega) (by omega),mn i l.length hi (by omega),show x+2*(i:Int)+1+1=x+2*((i+1:Nat):Int)from by omega];refine eP hr ?_;rw[e1,qb _ _ _ (by simp;omega),List.take_set_of_le (Nat.le_refl i),List.append_assoc]
   rfl)
 obtain⟨r,hr,hl,hh⟩:=key l rfl;exact⟨r,by simpa [cT.f]using hr,by omega,by simpa using hh⟩
theorem xd (l:List eg) (x:Int) (h0:1≤x) (h1:x+2*l.length≤4611686018427387904):∃r,Ev (fun k=>cL.f k l x) (x+2*l.length,r)∧r.length=l.length∧se x r:=by
 have key:=down (n:=l.length) (P:=fun i=>∀y:List eg,y.length=l.length→∃r,Ev (fun k=>cL.l0 k y (x+2*i) (i:Nat)) (x+2*l.length,y.take i++r)∧i+r.length=l.length∧se (x+2*i) r) (by
   intro y hy;refine⟨[],aX ?_,by simp,trivial⟩;simp only[cL.l0];refine du (by omega) (eP (Ev.now _) ?_)
   rw[←hy,List.take_length,List.append_nil]) (by
   intro i hi h y hy;obtain⟨s,hs⟩:=abk (x+2*i) (by omega) (by omega);obtain⟨s2,hs2⟩:=abk (x+2*i+1) (by omega) (by omega);obtain⟨r,hr,hl,hh⟩:=h (((y.set i (⟨s,(an y (i:Nat)).f1⟩:eg)).set i (⟨(an (y.set i (⟨s,(an y (i:Nat)).f1⟩:eg)) (i:Nat)).f0,s2⟩:eg))) (by simp[hy])
   have e1:(an (y.set i (⟨s,(an y (i:Nat)).f1⟩:eg)) (i:Nat)).f0=s:=by rw[an,getD_at _ _ i (by simpa using(by omega:i<y.length)),List.getElem_set_self]
   refine⟨⟨s,s2⟩::r,aX ?_,by simp;omega,hs,hs2,by rw[show x+2*(i:Int)+2=x+2*((i+1:Nat):Int)from by omega];exact hh⟩;simp only[cL.l0,Option.bind_some];rw[lf (n:=x+2*(i:Int)+1) (by omega) (by omega),lf (n:=x+2*(i:Int)+1+1) (by omega) (by omega),mn i l.length hi (by omega),show x+2*(i:Int)+1+1=x+2*((i+1:Nat):Int)from by omega];refine br (by omega) (Ev.bind hs (br (by omega) (Ev.bind hs2 (eP hr ?_))));rw[e1,qb _ _ _ (by simp;omega),List.take_set_of_le (Nat.le_refl i),List.append_assoc]
   rfl)
 obtain⟨r,hr,hl,hh⟩:=key l rfl;exact⟨r,by simpa [cL.f]using hr,by omega,by simpa using hh⟩
def acx (a:Int) (d:List Int) (e:List ed) (t:List eg):Prop:=d=marks d.length a∧sd (a+d.length) e∧se (a+d.length+2*e.length) t
def inW (d:List Int) (e:List ed) (t:List eg):Nat:=d.length+2*e.length+2*t.length
end Go.Proofs.YtlecajlnjmbilaaGreatDoor.Q
namespace Go.Proofs.YtlecajlnjmbilaaGreatDoor.Q
open Go.RowKit Go.Proofs.YtlecajlnjmbilaaGreatDoor.P Go.Proofs.ab.ar Go.Proofs.ab.aV Go.Proofs.ab.aZ
def lL (x:bg):Nat:=3+inW x.f3 x.f4 x.f5
def cM (l:List bg):Nat:=(l.map lL).sum
def sf:Int→List bg→Prop
 |_,[]=>True
 |a,x::l=>(x.f0=a∧x.f1=a+1∧x.f2=a+2∧acx (a+3) x.f3 x.f4 x.f5)∧sf (a+lL x) l
theorem abp (l:List bg):∀(x:Int),1≤x→x+cM l≤4611686018427387904→∃r,Ev (fun k=>p_ k l x) (x+cM l,r)∧r.length=l.length∧cM r=cM l∧sf x r:=by
 induction l with
 |nil=>intro x _ _;exact⟨[],eP (Ev.now _) (by simp[cM]),rfl,rfl,trivial⟩
 |cons y l ih=>
  intro x h0 h1
  have hw:cM (y::l)=lL y+cM l:=by simp[cM]
  rw[hw]at h1⊢;obtain⟨r,hr,hl,hW,hh⟩:=ih (x+lL y) (by omega) (by omega);have hy:lL y=3+(y.f3.length+2*y.f4.length+2*y.f5.length):=rfl;have g1:=sX y.f3 (x+1+1+1) (by omega) (by omega);obtain⟨e',g2,l2,v2⟩:=abo y.f4 (x+1+1+1+y.f3.length) (by omega) (by omega);obtain⟨t',g3,l3,v3⟩:=xd y.f5 (x+1+1+1+y.f3.length+2*y.f4.length) (by omega) (by omega)
  have hz:lL ⟨x,x+1,x+1+1,marks y.f3.length (x+1+1+1),e',t'⟩=lL y:=by
   simp only[lL,inW,fG,l2,l3]
  refine⟨⟨x,x+1,x+1+1,marks y.f3.length (x+1+1+1),e',t'⟩::r,?_,by simp[hl],by simp only[cM,List.map_cons,List.sum_cons,hz]at hW⊢;omega,⟨rfl,rfl,by dsimp only;omega,?_⟩,by rw[hz];exact hh⟩
  ·simp only[p_,sP];rw[lf (n:=x+1) (by omega) (by omega),lf (n:=x+1+1) (by omega) (by omega),lf (n:=x+1+1+1) (by omega) (by omega)];refine Ev.bind (Ev.bind g1 (Ev.bind g2 (Ev.bind g3 (Ev.now _)))) ?_;rw[show x+1+1+1+(y.f3.length:Int)+2*y.f4.length+2*y.f5.length=x+lL y from by omega];refine Ev.bind hr (eP (Ev.now _) ?_);rw[show x+((lL y+cM l:Nat):Int)=x+lL y+cM l from by omega]
  ·rw[show x+1+1+1=x+3 from by omega]at v2 v3⊢;exact⟨by rw[fG],by rw[fG];exact v2,by rw[fG,l2];exact v3⟩
theorem sg (l:List bg) (x:Int) (hl:l.length≤1048577) (h0:1≤x) (h1:x+cM l≤4611686018427387904):∃r,Ev (fun k=>ei.f k l x) (x+cM l,r)∧r.length=l.length∧cM r=cM l∧sf x r:=by
 obtain⟨r,hr,z⟩:=abp l x h0 h1;exact⟨r,by unfold ei.f;exact br (by omega) hr,z⟩
theorem abq (l:List bg) (x:Int) (hl:l.length≤1048576) (h0:1≤x) (h1:x+cM l≤4611686018427387904):∃r,Ev (fun k=>ei.f k l x) (x+cM l,r)∧r.length=l.length∧cM r=cM l∧sf x r:=sg l x (by omega) h0 h1
theorem abr (l:List bg):∀(a:Int) (i:Nat) (h:i<l.length),sf a l→(l[i].f0=a+cM (l.take i)∧l[i].f1=a+cM (l.take i)+1∧l[i].f2=a+cM (l.take i)+2∧acx (a+cM (l.take i)+3) l[i].f3 l[i].f4 l[i].f5):=by
 induction l with
 |nil=>intro a i h;simp at h
 |cons x l ih=>
  intro a i h hh
  cases i with
  |zero=>simpa [cM]using hh.1
  |succ i=>
   have:=ih (a+lL x) i (by simpa using h) hh.2;rw[show a+(lL x:Int)+cM (l.take i)=a+cM ((x::l).take (i+1))from by simp[cM];omega]at this;exact this
theorem vG (l:List bg) (i:Nat) (h:i<l.length):cM (l.take (i+1))=cM (l.take i)+lL l[i]:=by
 unfold cM;rw[List.take_succ_eq_append_getElem h,List.map_append,List.sum_append];simp
theorem abt (l:List bg) (i:Nat):cM (l.take i)≤cM l:=by
 have h:cM l=cM (l.take i)+cM (l.drop i):=by unfold cM;rw[←List.sum_append,←List.map_append,List.take_append_drop]
 omega
end Go.Proofs.YtlecajlnjmbilaaGreatDoor.Q
namespace Go.Proofs.YtlecajlnjmbilaaGreatDoor.Q
open Go.RowKit Go.Proofs.YtlecajlnjmbilaaGreatDoor.P Go.Proofs.ab.ar Go.Proofs.ab.aV Go.Proofs.ab.aZ
theorem xe (l:List bg) (nx x:Int) (hl:l.length≤1048577) (h0:1≤x) (h1:x+cM l≤4611686018427387904) (hh:sf x l):Ev (fun k=>eQ.f k l nx x) (x+cM l):=by
 have key:=down (n:=l.length) (P:=fun i=>Ev (fun k=>az.l0 k l (x+cM (l.take i)) (i:Nat)) (x+cM l)) (by
   apply aX
   simp only[az.l0,List.take_length]
   exact du (by omega) (Ev.now _)) (fun i hi h=>by
   obtain⟨g0,g1,g2,hd,he,ht⟩:=abr l x i hi hh;have hrd:af l (i:Int)=l[i]:=getD_at l _ i hi;have hw:=vG l i hi;have hle:=abt l (i+1);have hy:lL l[i]=3+(l[i].f3.length+2*l[i].f4.length+2*l[i].f5.length):=rfl;generalize hA:x+(cM (l.take i):Int)=A at g0 g1 g2 hd he ht;have b1:=sY l[i].f3.length (A+3) (by omega) (by omega);rw[←hd]at b1;have b2:=abn l[i].f4 (A+3+l[i].f3.length) (by omega) (by omega) he;have b3:=xc l[i].f5 (A+3+l[i].f3.length+2*l[i].f4.length) (by omega) (by omega) ht
   apply aX
   simp only[az.l0];refine br (by omega) ?_
   apply aX
   simp only[az.j1,hrd];refine br (by omega) (br (by omega) (br g0 ?_))
   apply aX
   simp only[az.j2,hrd];rw[lf (n:=A+1) (by omega) (by omega)];refine br (by omega) (br (by omega) (br g1 ?_))
   apply aX
   simp only[az.j3,hrd];rw[lf (n:=A+1+1) (by omega) (by omega)];refine br (by omega) (br (by omega) (br (by omega) ?_))
   apply aX
   simp only[az.j4,hrd];rw[lf (n:=A+1+1+1) (by omega) (by omega),show A+1+1+1=A+3 from by omega];refine br (by omega) (br (by omega) (Ev.bind b1 (du (by omega) ?_)))
   apply aX
   simp only[az.j5,hrd];refine br (by omega) (br (by omega) (Ev.bind b2 (du (by omega) (Ev.bind b3 (du (by omega) ?_)))));rw[mn i l.length hi (by omega)];rw[show A+3+(l[i].f3.length:Int)+2*l[i].f4.length+2*l[i].f5.length=x+cM (l.take (i+1))from by omega]
   exact h)
 unfold eQ.f az.f;refine Ev.bind (a:=x+cM l) ?_ (du (by omega) (Ev.now _))
 simpa [cM]using key
end Go.Proofs.YtlecajlnjmbilaaGreatDoor.Q
namespace Go.Proofs.YtlecajlnjmbilaaGreatDoor.Q
open Go.RowKit Go.Proofs.YtlecajlnjmbilaaGreatDoor.P Go.Proofs.ab.ar Go.Proofs.ab.aV Go.Proofs.ab.aZ
structure hO (x:bg):Prop where
 d:x.f3.length≤1048576
 e:x.f4.length≤1048576
 t:x.f5.length≤1048576
theorem ra (x:bg) (h:hO x):ek.f x.f0 x.f1 x.f2 x.f3 x.f4 x.f5=some (x.f0,x.f1,x.f2,x.f3,x.f4,x.f5):=by
 have hd:=h.d;have he:=h.e;have ht:=h.t
 have a:cw.f x.f3=some x.f3:=by unfold cw.f;simp;omega
 have b:dg.f x.f4=some x.f4:=by unfold dg.f;simp;omega
 have c:cS.f x.f5=some x.f5:=by unfold cS.f;simp;omega
 unfold ek.f;rw[a,Option.bind_some,b,Option.bind_some,c,Option.bind_some]
end Go.Proofs.YtlecajlnjmbilaaGreatDoor.Q
namespace Go.Proofs.YtlecajlnjmbilaaGreatDoor.Q
open Go.RowKit Go.Proofs.YtlecajlnjmbilaaGreatDoor.P Go.Proofs.ab.ar Go.Proofs.ab.aV Go.Proofs.ab.aZ
theorem pt (x:bg) (h:hO x):df.f x.f0 x.f1 x.f2 x.f3 x.f4 x.f5=some (x.f0,x.f1,x.f2,x.f3,x.f4,x.f5):=by
 have hd:=h.d;have he:=h.e;have ht:=h.t;unfold df.f;simp only[Option.bind_some,List.length_nil,List.nil_append];rw[if_pos (by omega),if_pos (by omega),if_pos (by omega)]
end Go.Proofs.YtlecajlnjmbilaaGreatDoor.Q
namespace Go.Proofs.YtlecajlnjmbilaaGreatDoor.Q
open Go.RowKit Go.Proofs.YtlecajlnjmbilaaGreatDoor.P Go.Proofs.ab.ar Go.Proofs.ab.aV Go.Proofs.ab.aZ
theorem abc (l:List ma):cM (l.map jm)≤3*qa l:=by
 unfold cM qa
 induction l with
 |nil=>simp
 |cons x l ih=>
  simp only[List.map_cons,List.sum_cons,List.length_cons]
  have:lL (jm x)≤3+3*pj x:=by
   unfold lL inW pj ph jm;simp only[List.length_map]
   omega
  omega
theorem tf (p:bg→Bool) (l:List bg):cM (l.filter p)≤cM l:=by
 unfold cM
 induction l with
 |nil=>simp
 |cons x l ih=>
  rw[List.filter_cons]
  split
  ·simp only[List.map_cons,List.sum_cons];omega
  ·simp only[List.map_cons,List.sum_cons];omega
theorem rb {l:List bg}(h:∀x∈l,hO x):∀x∈l,x.f3.length≤9223372036854775807∧x.f4.length≤9223372036854775807∧x.f5.length≤9223372036854775807:=fun x hx=>by
 have a:=(h x hx).d;have b:=(h x hx).e;have c:=(h x hx).t
 omega
end Go.Proofs.YtlecajlnjmbilaaGreatDoor.Q
namespace Go.Proofs.YtlecajlnjmbilaaGreatDoor.Q
open Go.RowKit Go.Proofs.YtlecajlnjmbilaaGreatDoor.P Go.Proofs.ab.ar Go.Proofs.ab.aV Go.Proofs.ab.aZ
theorem kR (ino:Int) (l:List bg):∀i:Nat,cz ino l i= -1∨((i:Int)≤cz ino l i∧cz ino l i<i+l.length):=by
 induction l with
 |nil=>intro i;exact .inl rfl
 |cons x l ih=>
  intro i;rw[cz]
  split
  ·right;simp only[List.length_cons];omega
  ·rcases ih (i+1)with h|h
   ·exact .inl h
   ·right;simp only[List.length_cons];omega
theorem nT (l:List bg) (nx ino:Int) (hl:l.length≤1048576):Ev (fun k=>cA.f k l nx ino) (cz ino l 0):=by
 have key:=down (n:=l.length) (P:=fun i=>Ev (fun k=>cA.l0 k ino (i:Nat) l nx) (cz ino (l.drop i) i)) (by
   apply aX
   simp only[cA.l0];refine du (by omega) (eP (Ev.now _) ?_)
   rw[List.drop_length];rfl) (fun i hi h=>by
   have hrd:af l (i:Int)=l[i]:=getD_at l _ i hi
   apply aX
   simp only[cA.l0,hrd];rw[mn i l.length hi (by omega),List.drop_eq_getElem_cons hi,cz];refine br (by omega) (br (by omega) ?_)
   by_cases c:l[i].f0=ino
   ·exact br c (eP (Ev.now _) (by rw[if_pos c]))
   ·exact du c (eP h (by rw[if_neg c])))
 simpa [cA.f]using key
end Go.Proofs.YtlecajlnjmbilaaGreatDoor.Q
namespace Go.Proofs.YtlecajlnjmbilaaGreatDoor.Q
open Go.RowKit Go.Proofs.YtlecajlnjmbilaaGreatDoor.P Go.Proofs.ab.ar Go.Proofs.ab.aV Go.Proofs.ab.aZ
def fJ (l:List bg) (ino:Int):bg:=if cz ino l 0<0 then⟨0,0,0,[],[],[]⟩else af l (cz ino l 0)
def eJ (l:List bg) (ino:Int):Bool:=decide (0≤cz ino l 0)
theorem iN (l:List bg) (ino:Int) (hs:∀x∈l,hO x):hO (fJ l ino):=by
 unfold fJ
 split
 ·exact⟨by simp,by simp,by simp⟩
 ·rcases kR ino l 0 with h|h
  ·omega
  ·obtain⟨n,hn⟩:∃n:Nat,cz ino l 0=n:=⟨(cz ino l 0).toNat,by omega⟩;rw[hn]at h⊢
   have hlt:n<l.length:=by omega
   have hrd:af l (n:Int)=l[n]:=getD_at l _ n hlt;rw[hrd];exact hs _ (List.getElem_mem hlt)
theorem my (l:List bg) (nx ino:Int) (hl:l.length≤1048576) (hs:∀x∈l,hO x):
  Ev (fun k=>cK.f k l nx ino) ((fJ l ino).f0,(fJ l ino).f1,(fJ l ino).f2,(fJ l ino).f3,(fJ l ino).f4,(fJ l ino).f5,eJ l ino):=by
 have hc:=iN l ino hs;have hr:=kR ino l 0;unfold cK.f eh.f;refine Ev.bind (br (by omega) (Ev.now _)) ?_
 by_cases c:cz ino l 0<0
 ·refine br c (eP (Ev.now _) ?_);simp only[fJ,eJ,if_pos c,show decide (0≤cz ino l 0)=false from decide_eq_false (by omega)]
 ·have hi:fJ l ino=af l (cz ino l 0):=by simp only[fJ,if_neg c]
  rw[hi]at hc⊢;refine du c (br (by omega) (br (by omega) ?_));simp only[ra _ hc,Option.bind_some];refine eP (Ev.now _) ?_;simp only[eJ,show decide (0≤cz ino l 0)=true from decide_eq_true (by omega)]
end Go.Proofs.YtlecajlnjmbilaaGreatDoor.Q
namespace Go.Proofs.YtlecajlnjmbilaaGreatDoor.Q
open Go.RowKit Go.Proofs.YtlecajlnjmbilaaGreatDoor.P Go.Proofs.ab.ar Go.Proofs.ab.aV Go.Proofs.ab.aZ
theorem pv (l:List bg) (nx ino:Int) (hl:l.length≤1048576) (hs:∀x∈l,hO x):
  Ev (fun k=>fc.f k l nx ino) ((fJ l ino).f0,(fJ l ino).f1,(fJ l ino).f2,(fJ l ino).f3,(fJ l ino).f4,(fJ l ino).f5,eJ l ino):=by
 have hc:=iN l ino hs;have hr:=kR ino l 0;unfold fc.f;refine Ev.bind (nT l nx ino hl) ?_
 by_cases c:cz ino l 0<0
 ·refine br c (eP (Ev.now _) ?_);simp only[fJ,eJ,if_pos c,show decide (0≤cz ino l 0)=false from decide_eq_false (by omega)]
 ·have hi:fJ l ino=af l (cz ino l 0):=by simp only[fJ,if_neg c]
  rw[hi]at hc⊢;refine du c (br (by omega) (br (by omega) ?_));simp only[pt _ hc,Option.bind_some];refine eP (Ev.now _) ?_;simp only[eJ,show decide (0≤cz ino l 0)=true from decide_eq_true (by omega)]
end Go.Proofs.YtlecajlnjmbilaaGreatDoor.Q
namespace Go.Proofs.YtlecajlnjmbilaaGreatDoor.Q
open Go.RowKit Go.Proofs.YtlecajlnjmbilaaGreatDoor.P Go.Proofs.ab.ar Go.Proofs.ab.aV Go.Proofs.ab.aZ
def pw (name:ByteArray):List ed→Int
 |[]=>0
 |e::l=>if e.f0.toList=name.toList then e.f1 else pw name l
theorem vH (a b c:Int) (d:List Int) (e:List ed) (t:List eg) (name:ByteArray) (he:e.length≤9223372036854775807):Ev (fun k=>eB.f k a b c d e t name) (pw name e):=by
 unfold eB.f;refine wm (fun k i=>eB.l0 k name i a b c d e t) e (pw name) ?_ (fun i hi h=> ?_)
 ·apply aX
  simp only[eB.l0];exact du (by omega) (Ev.now _)
 ·apply aX
  simp only[eB.l0,al,getD_at e _ i hi,pw];refine br (by omega) (br (by omega) ?_);rw[mn i e.length hi he];exact evI (fun _=>Ev.now _) (fun _=>h)
theorem vI (a b c:Int) (d:List Int) (e:List ed) (t:List eg) (name:ByteArray) (he:e.length≤9223372036854775807):Ev (fun k=>eC.f k a b c d e t name) (pw name e):=by
 unfold eC.f;refine wm (fun k i=>eC.l0 k name e (e.length:Int) i) e (pw name) ?_ (fun i hi h=> ?_)
 ·apply aX
  simp only[eC.l0];exact du (by omega) (Ev.now _)
 ·apply aX
  simp only[eC.l0,al,getD_at e _ i hi,pw];refine br (by omega) (br (by omega) (br (by omega) ?_));rw[mn i e.length hi he];exact evI (fun _=>Ev.now _) (fun _=>h)
end Go.Proofs.YtlecajlnjmbilaaGreatDoor.Q
namespace Go.Proofs.YtlecajlnjmbilaaGreatDoor.Q
open Go.RowKit Go.Proofs.YtlecajlnjmbilaaGreatDoor.P Go.Proofs.ab.ar Go.Proofs.ab.aV Go.Proofs.ab.aZ
theorem adZ (i:Nat) (n:Nat) (hi:i<n) (hn:n≤9223372036854775807):wrap64 ((i:Int)+1)=((i+1:Nat):Int):=by
 rw[lf (by omega) (by omega)];omega
theorem rdS (l:List ByteArray) (i:Nat) (h:i<l.length):kX ByteArray.empty l (i:Int)=l[i]:=getD_at l _ i h
def si (l:List ByteArray):Nat:=(l.map ByteArray.size).sum
theorem acg (l:List ByteArray) (hs:∀x∈l,x.size≤1048576):∀i:Nat,∃r,Ev (fun k=>badR k l i) r∧(decide (0≤r))= !(l.all iV):=by
 induction l with
 |nil=>intro i;exact⟨-1,Ev.now _,rfl⟩
 |cons x l ih=>
  intro i;have hx:=pI x (by have:=hs x (List.mem_cons_self ..);omega)
  by_cases c:iV x=true
  ·obtain⟨r,h1,h2⟩:=ih (fun y hy=>hs y (List.mem_cons_of_mem _ hy)) (i+1);refine⟨r,?_,by rw[h2,List.all_cons,c,Bool.true_and]⟩;simp only[badR];exact Ev.bind hx (br c h1)
  ·refine⟨(i:Int),?_,by simp[c]⟩;simp only[badR];exact Ev.bind hx (du c (Ev.now _))
def lI (l:List ByteArray):Bool:=l.all iV&&decide (l.length≤30)
theorem vJ (l:List ByteArray) (hs:∀x∈l,x.size≤1048576):Ev (fun k=>gf.f k l) (lI l):=by
 unfold gf.f lI
 by_cases c:l.length≤30
 ·obtain⟨r,h1,h2⟩:=acg l hs 0;refine br c (Ev.bind h1 (eP (Ev.now _) ?_));rw[h2];simp[c]
 ·exact du c (eP (Ev.now _) (by simp[c]))
end Go.Proofs.YtlecajlnjmbilaaGreatDoor.Q
namespace Go.Proofs.YtlecajlnjmbilaaGreatDoor.Q
open Go.RowKit Go.Proofs.YtlecajlnjmbilaaGreatDoor.P Go.Proofs.ab.ar Go.Proofs.ab.aV Go.Proofs.ab.aZ
end Go.Proofs.YtlecajlnjmbilaaGreatDoor.Q
namespace Go.Proofs.YtlecajlnjmbilaaGreatDoor.Q
open Go.RowKit Go.Proofs.YtlecajlnjmbilaaGreatDoor.P Go.Proofs.ab.ar Go.Proofs.ab.aV Go.Proofs.ab.aZ
def iv (q:List UInt8):List (List UInt8)→List (List UInt8)
 |[]=>[q]
 |p::ps=>(q++p)::ps
def parts:List UInt8→List (List UInt8)
 |[]=>[[]]
 |b::l=>if b=47 then []::parts l else iv [b] (parts l)
theorem kS (l:List UInt8):parts l≠[]:=by
 cases l with
 |nil=>simp[parts]
 |cons b l=>
  rw[parts]
  split
  ·simp
  ·cases parts l<;>simp[iv]
theorem qc (X:List (List UInt8)) (h:X≠[]):iv [] X=X:=by
 cases X with
 |nil=>exact absurd rfl h
 |cons p ps=>rfl
theorem ub (q r:List UInt8) (X:List (List UInt8)):iv q (iv r X)=iv (q++r) X:=by
 cases X<;>simp[iv]
theorem xf (k:Nat) (b:UInt8) (l:List UInt8) (h:b≠47):Lib.splitK [47] 0 k (b::l)=iv [b] (Lib.splitK [47] 0 k l):=by
 cases k with
 |zero=>rfl
 |succ k=>
  have hp:([47]:List UInt8).isPrefixOf (b::l)=false:=by simp[List.isPrefixOf,Ne.symm h]
  have hix:Lib.index (b::l) [47]=if Lib.index l [47]== -1 then-1 else Lib.index l [47]+1:=by rw[Lib.index,hp];simp
  by_cases hm:Lib.index l [47]= -1
  ·rw[Lib.splitK,Lib.splitK,hix,hm];rfl
  ·have hge:=Lib.index_ge l [47];obtain⟨j,hj⟩:∃j:Nat,Lib.index l [47]=j:=⟨(Lib.index l [47]).toNat,by omega⟩
   have hix':Lib.index (b::l) [47]=((j+1:Nat):Int):=by rw[hix,if_neg (fun e=>hm (beq_iff_eq.1 e)),hj];omega
   have n1:¬(((j+1:Nat):Int)== -1)=true:=fun e=>by have:=beq_iff_eq.1 e;omega
   have n2:¬((j:Int)== -1)=true:=fun e=>by have:=beq_iff_eq.1 e;omega
   rw[Lib.splitK,Lib.splitK,hix',hj,if_neg n1,if_neg n2,Int.toNat_natCast,Int.toNat_natCast];simp[iv]
theorem xg (k:Nat) (l:List UInt8):Lib.splitK [47] 0 (k+1) (47::l)=[]::Lib.splitK [47] 0 k l:=by
 have hix:Lib.index (47::l) [47]=0:=by rw[Lib.index];simp[List.isPrefixOf]
 rw[Lib.splitK,hix,if_neg (by decide)];simp
theorem tg (l:List UInt8):Lib.splitK [47] 0 (Lib.count l [47]) l=parts l:=by
 induction l with
 |nil=>rw[Lib.count_miss (by simp[Lib.index])];rfl
 |cons b l ih=>
  rw[parts]
  by_cases h:b=47
  ·subst h;rw[if_pos rfl,Lib.count_cons_eq,Nat.add_comm,xg,ih]
  ·rw[if_neg h,Lib.count_cons_ne b 47 l h,xf _ _ _ h,ih]
def oM (l:List UInt8):ByteArray:=⟨l.toArray⟩
theorem re (s:ByteArray):oM s.data.toList=s:=by simp[oM]
theorem uc (l:List UInt8):(oM l).size=l.length:=by rw[←fh];simp[oM]
theorem ud (l:List UInt8):(oM l).data.toList=l:=by simp[oM]
theorem th (s:ByteArray):Lib.splitB ⟨#[47]⟩ 0 (Lib.countB s ⟨#[47]⟩) s=(parts s.data.toList).map oM:=by
 have h:=Lib.splitB_data ⟨#[47]⟩ 0 (Lib.countB s ⟨#[47]⟩) s;have hc:Lib.countB s ⟨#[47]⟩=Lib.count s.data.toList [47]:=rfl;rw[show(⟨#[47]⟩:ByteArray).data.toList=[47]from rfl,hc,tg]at h;rw[hc,←h,List.map_map]
 conv=>lhs;rw[←List.map_id (Lib.splitB _ _ _ _)]
 apply List.map_congr_left
 intro x _;exact(re x).symm
theorem xh (l:List UInt8):∀p∈parts l,p.length≤l.length:=by
 induction l with
 |nil=>intro p hp;simp[parts]at hp;subst hp;simp
 |cons b l ih=>
  intro p hp;rw[parts]at hp
  split at hp
  ·rcases List.mem_cons.1 hp with rfl|hp
   ·simp
   ·have:=ih p hp;simp;omega
  ·cases hX:parts l with
   |nil=>exact absurd hX (kS l)
   |cons q X=>
    rw[hX]at hp ih;rcases List.mem_cons.1 hp with rfl|hp
    ·have:=ih q (List.mem_cons_self ..);simp;omega
    ·have:=ih p (List.mem_cons_of_mem _ hp);simp;omega
theorem sj (l:List UInt8):(parts l).length≤l.length+1:=by
 induction l with
 |nil=>simp[parts]
 |cons b l ih=>
  rw[parts]
  split
  ·simp;omega
  ·cases hX:parts l with
   |nil=>simp[iv]
   |cons q X=>rw[hX]at ih;simp[iv]at ih⊢;omega
def jn (s:ByteArray):List ByteArray×Bool:=
 if s.toList=([47]:List UInt8)then([],true)else
 match(parts s.data.toList).map oM with
 |[]=>([],false)
 |x::l=>if x.toList=[]∧l≠[]∧lI l=true then(l,true)else([],false)
theorem rf (s:ByteArray) (hs:s.size≤1048576):Ev (fun k=>eD.f k s) (jn s):=by
 unfold eD.f jn;refine evI (fun _=>Ev.now _) (fun _=> ?_)
 have h0:strings_Split.f s ⟨#[47]⟩=some ((parts s.data.toList).map oM):=by
  unfold strings_Split.f;rw[if_pos ⟨by omega,by decide⟩,th]
 simp only[h0,Option.bind_some];have hps:=xh s.data.toList;have hsz:s.data.toList.length=s.size:=fh s;have hpl:=sj s.data.toList
 cases hX:parts s.data.toList with
 |nil=>exact absurd hX (kS _)
 |cons p ps=>
  rw[hX]at hps hpl;rw[List.map_cons];refine br (by rw[List.length_cons];omega) ?_;have hr:kX ByteArray.empty (oM p::ps.map oM) 0=oM p:=rfl;simp only[hr]
  by_cases c:(oM p).toList=[]
  ·refine br c ?_
   cases hq:ps with
   |nil=>exact br (by simp) (eP (Ev.now _) (by simp))
   |cons q qs=>
    rw[←hq]
    have hne:ps.map oM≠[]:=by rw[hq];simp
    have hl:0<ps.length:=by rw[hq];simp
    refine du (by simp;omega) (br (by simp;omega) ?_)
    have hn:=vJ (ps.map oM) (by
     intro x hx;obtain⟨y,hy,rfl⟩:=List.mem_map.1 hx;rw[uc];have:=hps y (List.mem_cons_of_mem _ hy)
     omega)
    refine Ev.bind hn ?_
    by_cases g:lI (ps.map oM)=true
    ·exact br g (eP (Ev.now _) (by rw[if_pos ⟨c,hne,g⟩];rfl))
    ·exact du g (eP (Ev.now _) (by rw[if_neg (fun h=>g h.2.2)]))
  ·exact du c (eP (Ev.now _) (by rw[if_neg (fun h=>c h.1)]))
def proc:List ByteArray→List (List UInt8)→Option (List ByteArray)
 |out,[]=>some out
 |out,p::ps=>if iV (oM p)=true then(if out.length=30 then none else proc (out++[oM p]) ps)else none
theorem ach (ps:List (List UInt8)):∀out:List ByteArray,out.length≤30→proc out ps=if(ps.map oM).all iV=true∧out.length+ps.length≤30 then some (out++ps.map oM)else none:=by
 induction ps with
 |nil=>intro out h;simp[proc,h]
 |cons p ps ih=>
  intro out h;rw[proc]
  by_cases c:iV (oM p)=true
  ·rw[if_pos c]
   by_cases d:out.length=30
   ·rw[if_pos d,if_neg (by simp;omega)]
   ·rw[if_neg d,ih _ (by simp;omega)];simp only[List.map_cons,List.all_cons,c,Bool.true_and,List.length_append,List.length_cons,List.length_nil,List.append_assoc,List.singleton_append]
    congr 1
    simp only[Nat.zero_add,Nat.add_assoc,Nat.add_comm 1]
  ·rw[if_neg c,if_neg (by simp[c])]
def ti (s:ByteArray):Option (List ByteArray)→List ByteArray×Bool
 |none=>([],false)
 |some out=>if s.data.toList.head? =some 47 then(out,true)else([],false)
theorem tj (s:ByteArray) (i:Nat) (h:i<s.size):bt s (i:Int)=((s.data.toList[i]'(by rw[fh];exact h)).toNat:Int):=by
 rw[←hD s (i:Int) (by rw[Int.toNat_natCast];exact h)];simp only[Int.toNat_natCast]
 rfl
theorem u47 (b:UInt8):((b.toNat:Int)=47)↔b=47:=by
 constructor
 ·intro h
  have:b.toNat=47:=by omega
  exact UInt8.toNat_inj.1 (this.trans rfl)
 ·rintro rfl;rfl
theorem nG (s:ByteArray) (out:List ByteArray) (i f:Int) (k:Nat) (h:¬i≤(s.size:Int)):aY.l0 (k+1) s out f i=some (ti s (some out)):=by
 simp only[aY.l0];rw[if_neg h];have hsz:s.data.toList.length=s.size:=fh s
 cases hd:s.data.toList with
 |nil=>
  rw[hd]at hsz;rw[if_pos (by simp at hsz;omega)];simp[ti,hd]
 |cons b l=>
  have hl:0<s.size:=by rw[←hsz,hd];simp
  rw[if_neg (by omega),if_pos (by omega)];have hb:=tj s 0 hl;simp only[hd,List.getElem_cons_zero]at hb;have hb':bt s 0=(b.toNat:Int):=hb;rw[hb']
  by_cases c:b=47
  ·rw[if_pos ((u47 b).2 c)];simp[ti,hd,c]
  ·rw[if_neg (fun h=>c ((u47 b).1 h))];simp[ti,hd,c]
theorem drop_at (s:ByteArray) (i:Nat) (h:i<s.size):s.data.toList.drop i=(s.data.toList[i]'(by rw[fh];exact h))::s.data.toList.drop (i+1):=List.drop_eq_getElem_cons _
theorem nm (s:ByteArray) (hs:s.size≤1048576):∀(n i f:Nat) (out:List ByteArray),1≤i→i≤s.size→f≤i→s.size-i=n→out.length≤30→
  Ev (fun k=>aY.l0 k s out f i) (ti s (proc out (iv ((s.data.toList.drop f).take (i-f)) (parts (s.data.toList.drop i))))):=by
 have hsz:s.data.toList.length=s.size:=fh s;intro n
 induction n with
 |zero=>
  intro i f out h1 hi hf hn ho
  obtain rfl:i=s.size:=by omega
  have hx:(s.extract f s.size)=oM ((s.data.toList.drop f).take (s.size-f)):=by
   rw[←re (s.extract f s.size)]
   congr 1
   rw[Lib.extract_data]
  have hsl:(s.extract f s.size).size≤9223372036854775807:=by rw[ByteArray.size_extract];omega
  rw[List.drop_eq_nil_of_le (by omega:s.data.toList.length≤s.size)];have hnm:=nR (s.extract f s.size) hsl
  apply aX
  simp only[aY.l0];refine br (by omega) (du (by omega) ?_)
  apply aX
  simp only[aY.j1];refine du (by simp) (br (by omega) (br (by omega) (br (by omega) (br (by omega) ?_))));simp only[Int.toNat_natCast];refine Ev.bind hnm ?_;rw[hx];simp only[parts,iv,List.append_nil,proc]
  by_cases c:iV (oM ((s.data.toList.drop f).take (s.size-f)))=true
  ·refine br c ?_;rw[if_pos c]
   by_cases d:out.length=30
   ·rw[if_pos d];exact br (by omega) (Ev.now _)
   ·rw[if_neg d];refine du (by omega) (br (by omega) ?_)
    apply aX
    rw[lf (by omega) (by omega)];simp only[nG s _ _ _ _ (show¬((s.size:Int)+1)≤(s.size:Int) by omega)];exact Ev.now _
  ·rw[if_neg c];exact du c (Ev.now _)
 |succ n ih=>
  intro i f out h1 hi hf hn ho
  have hlt:i<s.size:=by omega
  have hb:=tj s i hlt;have hd:=drop_at s i hlt;generalize hB:(s.data.toList[i]'(by rw[fh];exact hlt))=B at hb hd
  have hnx:wrap64 ((i:Int)+1)=((i+1:Nat):Int):=by rw[lf (by omega) (by omega)];omega
  have htk:(s.data.toList.drop f).take (i+1-f)=(s.data.toList.drop f).take (i-f)++[B]:=by
   rw[show i+1-f=(i-f)+1 by omega,List.take_succ_eq_append_getElem (by rw[List.length_drop];omega)]
   congr 2
   rw[List.getElem_drop];simp only[show f+(i-f)=i by omega];exact hB
  apply aX
  simp only[aY.l0];refine br (by omega) (br (by omega) (br (by omega) ?_))
  apply aX
  simp only[aY.j1];rw[hb,hnx]
  by_cases c:B=47
  ·have hx:(s.extract f i)=oM ((s.data.toList.drop f).take (i-f)):=by
    rw[←re (s.extract f i)]
    congr 1
    rw[Lib.extract_data]
   have hsl:(s.extract f i).size≤9223372036854775807:=by rw[ByteArray.size_extract];omega
   have hnm:=nR (s.extract f i) hsl;rw[hd,parts,if_pos c];refine du (by simp[(u47 B).2 c]) (br (by omega) (br (by omega) (br (by omega) (br (by omega) ?_))));simp only[Int.toNat_natCast];refine Ev.bind hnm ?_;rw[hx];simp only[iv,List.append_nil,proc]
   by_cases cn:iV (oM ((s.data.toList.drop f).take (i-f)))=true
   ·refine br cn ?_;rw[if_pos cn]
    by_cases d:out.length=30
    ·rw[if_pos d];exact br (by omega) (Ev.now _)
    ·rw[if_neg d];refine du (by omega) (br (by omega) ?_);have:=ih (i+1) (i+1) (out++[oM ((s.data.toList.drop f).take (i-f))]) (by omega) (by omega) (Nat.le_refl _) (by omega) (by simp;omega);rw[Nat.sub_self,List.take_zero,qc _ (kS _)]at this;exact this
   ·rw[if_neg cn];exact du cn (Ev.now _)
  ·rw[hd,parts,if_neg c,ub,←htk];refine br (by simpa using fun h=>c ((u47 B).1 h)) ?_;exact ih (i+1) f out (by omega) (by omega) (by omega) (by omega) ho
theorem rg (s:ByteArray) (hs:s.size≤1048576):Ev (fun k=>aY.f k s) (jn s):=by
 have hsz:s.data.toList.length=s.size:=fh s;unfold aY.f jn;simp only[Option.bind_some];refine evI (fun _=>Ev.now _) (fun _=> ?_)
 cases hd:s.data.toList with
 |nil=>
  rw[hd]at hsz
  have h0:s.size=0:=by simpa using hsz.symm
  apply aX
  simp only[aY.l0];refine br (by omega) (du (by omega) ?_)
  apply aX
  simp only[aY.j1];refine du (by simp) (du (by omega) ?_)
  apply aX
  simp only[nG s _ _ _ _ (show¬(wrap64 (0+1))≤(s.size:Int) by rw[h0,lf (by omega) (by omega)];omega)];exact eP (Ev.now _) (by simp[ti,hd,parts])
 |cons b l=>
  have hl:0<s.size:=by rw[←hsz,hd];simp
  have hb:=tj s 0 hl;simp only[hd,List.getElem_cons_zero]at hb;have hb':bt s 0=(b.toNat:Int):=hb
  apply aX
  simp only[aY.l0];refine br (by omega) (br (by omega) (br (by omega) ?_))
  apply aX
  simp only[aY.j1];rw[hb',show wrap64 (0+1)=((1:Nat):Int)from lf (by omega) (by omega)]
  by_cases c:b=47
  ·refine du (by simp[(u47 b).2 c]) (du (by omega) ?_);have:=nm s hs (s.size-1) 1 1 [] (by omega) (by omega) (Nat.le_refl _) rfl (by simp);refine eP this ?_;rw[Nat.sub_self,List.take_zero,qc _ (kS _),ach _ _ (by simp),hd,parts,if_pos c];simp only[List.drop_succ_cons,List.drop_zero,List.map_cons,List.length_nil,Nat.zero_add,List.nil_append]
   have hne:(parts l).map oM≠[]:=by
    intro h;exact kS l (List.map_eq_nil_iff.1 h)
   have he:(oM []).toList=[]:=by rw[toList_data,ud]
   by_cases g:lI ((parts l).map oM)=true
   ·have g':=g;simp only[lI,List.length_map,Bool.and_eq_true,decide_eq_true_eq]at g';rw[if_pos g',if_pos ⟨he,hne,g⟩];simp[ti,hd,c]
   ·have g':¬(((parts l).map oM).all iV=true∧(parts l).length≤30):=by
     intro h;apply g;simp only[lI,List.length_map,Bool.and_eq_true,decide_eq_true_eq];exact h
    rw[if_neg g',if_neg (fun h=>g h.2.2)]
    rfl
  ·refine br (by simpa using fun h=>c ((u47 b).1 h)) ?_;have:=nm s hs (s.size-1) 1 0 [] (by omega) (by omega) (by omega) rfl (by simp);refine eP this ?_
   have hf:∀x,ti s x=([],false):=by
    intro x
    cases x with
    |none=>rfl
    |some out=>simp[ti,hd,c]
   rw[hf,parts,if_neg c]
   cases hX:parts l with
   |nil=>exact absurd hX (kS l)
   |cons p ps=>
    simp only[iv,List.map_cons];rw[if_neg];intro h;have:=h.1;rw[toList_data,ud]at this;simp at this
end Go.Proofs.YtlecajlnjmbilaaGreatDoor.Q
namespace Go.Proofs.YtlecajlnjmbilaaGreatDoor.Q
open Go.RowKit Go.Proofs.YtlecajlnjmbilaaGreatDoor.P Go.Proofs.ab.ar Go.Proofs.ab.aV Go.Proofs.ab.aZ
theorem vK (l:List (List UInt8)):si (l.map oM)=(l.map List.length).sum:=by
 unfold si;rw[List.map_map];exact congrArg List.sum (List.map_congr_left fun x _=>uc x)
theorem xi (l:List UInt8):((parts l).map List.length).sum≤l.length:=by
 induction l with
 |nil=>simp[parts]
 |cons b l ih=>
  rw[parts]
  split
  ·simp;omega
  ·cases hX:parts l with
   |nil=>exact absurd hX (kS l)
   |cons q X=>rw[hX]at ih;simp[iv]at ih⊢;omega
theorem qd (s:ByteArray):(jn s).1.length≤s.size∧si (jn s).1≤s.size:=by
 have h1:=sj s.data.toList;have h2:=xi s.data.toList;rw[fh]at h1 h2;unfold jn
 split
 ·simp[si]
 ·split
  ·simp[si]
  ·rename_i x l hX
   split
   ·cases hP:parts s.data.toList with
    |nil=>exact absurd hP (kS _)
    |cons p ps=>
     rw[hP]at hX h1 h2;simp only[List.map_cons,List.cons.injEq]at hX;obtain⟨_,rfl⟩:=hX;simp only[List.length_map,vK];simp only[List.map_cons,List.sum_cons,List.length_cons]at h1 h2
     omega
   ·simp[si]
end Go.Proofs.YtlecajlnjmbilaaGreatDoor.Q
namespace Go.Proofs.YtlecajlnjmbilaaGreatDoor.Q
open Go.RowKit Go.Proofs.YtlecajlnjmbilaaGreatDoor.P Go.Proofs.ab.ar Go.Proofs.ab.aV Go.Proofs.ab.aZ
def sm (T:List bg):List ByteArray→Int→Int×Int
 |[],ino=>(ino,0)
 |n::l,ino=>if eJ T ino=true then(if(fJ T ino).f1=2 then(if pw n (fJ T ino).f4=0 then(0,2)else sm T l (pw n (fJ T ino).f4))else(0,3))else(0,2)
def nn (T:List bg) (s:ByteArray):Int×Int:=if(jn s).2=true then sm T (jn s).1 1 else(0,1)
theorem ue {γ:Type}(L:Nat→Int→Int→Option γ) (xs:List ByteArray) (F:List ByteArray→Int→γ) (h1:∀ino,Ev (fun k=>L k ino (xs.length:Nat)) (F [] ino))
  (h2:∀(i:Nat) (hi:i<xs.length) (ino:Int),(∀ad0,Ev (fun k=>L k ad0 ((i+1:Nat):Int)) (F (xs.drop (i+1)) ad0))→Ev (fun k=>L k ino (i:Nat)) (F (xs[i]::xs.drop (i+1)) ino)) (ino:Int):Ev (fun k=>L k ino 0) (F xs ino):=by
 have key:∀m i:Nat,xs.length-i=m→i≤xs.length→∀ino,Ev (fun k=>L k ino (i:Nat)) (F (xs.drop i) ino):=by
  intro m
  induction m with
  |zero=>
   intro i hm hi ino
   obtain rfl:i=xs.length:=by omega
   rw[List.drop_length];exact h1 ino
  |succ m ih=>
   intro i hm hi ino;rw[List.drop_eq_getElem_cons (by omega)];exact h2 i (by omega) ino (ih (i+1) (by omega) (by omega))
 simpa using key xs.length 0 (by omega) (by omega) ino
theorem xj (T:List bg) (nx:Int) (s:ByteArray) (hT:T.length≤1048576) (hs:∀x∈T,hO x) (h:s.size≤1048576):Ev (fun k=>eM.f k T nx s) (nn T s):=by
 unfold eM.f nn;refine Ev.bind (rf s h) ?_;have hl:=(qd s).1;generalize jn s=p at*;refine evI (fun _=> ?_) (fun _=>Ev.now _);refine ue (fun k ino i=>eM.l0 k ino p.1 p.1.length i T nx) p.1 (sm T) (fun ino=> ?_) (fun i hi ino ih=> ?_) 1
 ·apply aX
  simp only[eM.l0];exact du (by omega) (Ev.now _)
 ·have hx:=iN T ino hs
  apply aX
  simp only[eM.l0,sm];rw[adZ i p.1.length hi (by omega),rdS p.1 i hi];refine br (by omega) (br (by omega) (br (by omega) (Ev.bind (my T nx ino hT hs) ?_)));refine evI (fun _=>evI (fun _=> ?_) (fun _=>Ev.now _)) (fun _=>Ev.now _);refine Ev.bind (vI _ _ _ _ _ _ p.1[i] (by have:=hx.e;dsimp only;omega)) ?_;exact evI (fun _=>Ev.now _) (fun _=>ih _)
theorem xk (T:List bg) (nx:Int) (s:ByteArray) (hT:T.length≤1048576) (hs:∀x∈T,hO x) (h:s.size≤1048576):Ev (fun k=>jo.f k T nx s) (nn T s):=by
 unfold jo.f nn;refine Ev.bind (rg s h) ?_;have hl:=(qd s).1;generalize jn s=p at*;refine evI (fun _=> ?_) (fun _=>Ev.now _);unfold cI.f;refine Ev.bind (ue (fun k ino i=>cI.l0 k p.1 ino i T nx) p.1 (sm T) (fun ino=> ?_) (fun i hi ino ih=> ?_) 1) (Ev.now _)
 ·apply aX
  simp only[cI.l0];exact du (by omega) (Ev.now _)
 ·have hx:=iN T ino hs;have hr:=kR ino T 0
  apply aX
  simp only[cI.l0,sm];rw[adZ i p.1.length hi (by omega),rdS p.1 i hi];refine br (by omega) (Ev.bind (nT T nx ino hT) ?_)
  by_cases c:cz ino T 0<0
  ·have hn:¬eJ T ino=true:=by simp only[eJ,decide_eq_true_eq];omega
   rw[if_neg hn];exact br c (Ev.now _)
  ·have hy:eJ T ino=true:=by simp only[eJ,decide_eq_true_eq];omega
   have hi':fJ T ino=af T (cz ino T 0):=by simp only[fJ,if_neg c]
   rw[if_pos hy,hi'];rw[hi']at hx;refine du c (br (by omega) (br (by omega) (evI (fun _=>br (by omega) ?_) (fun _=>Ev.now _))));refine Ev.bind (vH _ _ _ _ _ _ p.1[i] (by have:=hx.e;omega)) ?_;exact evI (fun _=>Ev.now _) (fun _=>ih _)
end Go.Proofs.YtlecajlnjmbilaaGreatDoor.Q
namespace Go.Proofs.YtlecajlnjmbilaaGreatDoor.Q
open Go.RowKit Go.Proofs.YtlecajlnjmbilaaGreatDoor.P Go.Proofs.ab.ar Go.Proofs.ab.aV Go.Proofs.ab.aZ
def tk:bg:=⟨0,0,0,[],[],[]⟩
def ke (T:List bg) (s:ByteArray):bg×Int:=
 if(nn T s).2=0 then(if eJ T (nn T s).1=true then(fJ T (nn T s).1,0)else(tk,2))else(tk,(nn T s).2)
def wu (p:bg×Int):Int×Int×Int×List Int×List ed×List eg×Int:=(p.1.f0,p.1.f1,p.1.f2,p.1.f3,p.1.f4,p.1.f5,p.2)
theorem qe (T:List bg) (s:ByteArray) (hs:∀x∈T,hO x):hO (ke T s).1:=by
 unfold ke
 split
 ·split
  ·exact iN T _ hs
  ·exact⟨by simp[tk],by simp[tk],by simp[tk]⟩
 ·exact⟨by simp[tk],by simp[tk],by simp[tk]⟩
theorem xl (T:List bg) (nx:Int) (s:ByteArray) (hT:T.length≤1048576) (hs:∀x∈T,hO x) (h:s.size≤1048576):Ev (fun k=>jq.f k T nx s) (wu (ke T s)):=by
 unfold jq.f;refine Ev.bind (xj T nx s hT hs h) ?_
 by_cases c:(nn T s).2=0
 ·refine br c (Ev.bind (my T nx _ hT hs) ?_)
  by_cases d:eJ T (nn T s).1=true
  ·exact br d (eP (Ev.now _) (by simp only[ke,wu,if_pos c,if_pos d]))
  ·exact du d (eP (Ev.now _) (by simp only[ke,wu,if_pos c,if_neg d];rfl))
 ·exact du c (eP (Ev.now _) (by simp only[ke,wu,if_neg c];rfl))
theorem xm (T:List bg) (nx:Int) (s:ByteArray) (hT:T.length≤1048576) (hs:∀x∈T,hO x) (h:s.size≤1048576):Ev (fun k=>jr.f k T nx s) (wu (ke T s)):=by
 unfold jr.f;refine Ev.bind (xk T nx s hT hs h) ?_
 by_cases c:(nn T s).2=0
 ·refine br c (Ev.bind (pv T nx _ hT hs) ?_)
  by_cases d:eJ T (nn T s).1=true
  ·exact br d (eP (Ev.now _) (by simp only[ke,wu,if_pos c,if_pos d]))
  ·exact du d (eP (Ev.now _) (by simp only[ke,wu,if_pos c,if_neg d];rfl))
 ·exact du c (eP (Ev.now _) (by simp only[ke,wu,if_neg c];rfl))
end Go.Proofs.YtlecajlnjmbilaaGreatDoor.Q
namespace Go.Proofs.YtlecajlnjmbilaaGreatDoor.Q
open Go.RowKit Go.Proofs.YtlecajlnjmbilaaGreatDoor.P Go.Proofs.ab.ar Go.Proofs.ab.aV Go.Proofs.ab.aZ
theorem vL:∀(a b:List Int),a.Pairwise (·<·)→b.Pairwise (·<·)→(∀x,x∈a↔x∈b)→a=b
 |[],[],_,_,_=>rfl
 |[],y::b,_,_,h=>absurd ((h y).2 (List.mem_cons_self ..)) (by simp)
 |x::a,[],_,_,h=>absurd ((h x).1 (List.mem_cons_self ..)) (by simp)
 |x::a,y::b,ha,hb,h=>by
  obtain⟨ha1,ha2⟩:=List.pairwise_cons.1 ha;obtain⟨hb1,hb2⟩:=List.pairwise_cons.1 hb
  have hxy:x=y:=by
   rcases List.mem_cons.1 ((h x).1 (List.mem_cons_self ..))with h1|h1
   ·exact h1
   ·rcases List.mem_cons.1 ((h y).2 (List.mem_cons_self ..))with h2|h2
    ·exact h2.symm
    ·have:=hb1 x h1;have:=ha1 y h2;omega
  subst hxy;rw[vL a b ha2 hb2 (fun z=> ?_)]
  constructor
  ·intro hz;rcases List.mem_cons.1 ((h z).1 (List.mem_cons_of_mem _ hz))with rfl|h1
   ·have:=ha1 z hz;omega
   ·exact h1
  ·intro hz;rcases List.mem_cons.1 ((h z).2 (List.mem_cons_of_mem _ hz))with rfl|h1
   ·have:=hb1 z hz;omega
   ·exact h1
theorem xn (l:List Int) (x:Int):x∈ng l↔x∈l:=List.mem_mergeSort ..
theorem abu (l:List Int) (h:l.Nodup):(ng l).Pairwise (·<·):=by
 have h1:(ng l).Pairwise fun x y=>decide (x≤y)=true:=List.pairwise_mergeSort (fun a b c h1 h2=>by simp at*;omega) (fun a b=>by simp;omega) l
 have h2:(ng l).Nodup:=(List.mergeSort_perm l _).nodup_iff.2 h;exact(h1.and h2).imp (fun⟨a,b⟩=>by simp at a;omega)
def tq (xs:List Int) (n:Int):Nat→Nat
 |0=>0
 |k+1=>if xs.getD k 0>n then tq xs n k else k+1
def rh (xs:List Int) (n:Int):List Int:=if n∈xs then xs else xs.take (tq xs n xs.length)++[n]++xs.drop (tq xs n xs.length)
theorem abv (xs:List Int) (n:Int):∀k,tq xs n k≤k
 |0=>Nat.le_refl _
 |k+1=>by rw[tq];split;exact Nat.le_succ_of_le (abv xs n k);exact Nat.le_refl _
theorem uf (xs:List Int) (n x:Int):x∈rh xs n↔x∈xs∨x=n:=by
 unfold rh
 split
 ·constructor
  ·exact .inl
  ·rintro(h|rfl)<;>assumption
 ·rw[List.mem_append,List.mem_append,List.mem_singleton]
  conv=>rhs;rw[←List.take_append_drop (tq xs n xs.length) xs,List.mem_append]
  constructor
  ·rintro((h|h)|h)
   ·exact .inl (.inl h)
   ·exact .inr h
   ·exact .inl (.inr h)
  ·rintro((h|h)|h)
   ·exact .inl (.inl h)
   ·exact .inr h
   ·exact .inl (.inr h)
theorem abw (xs:List Int) (n:Int):∀k,k≤xs.length→∀j,tq xs n k≤j→j<k→xs.getD j 0>n
 |0,_,j,_,h=>by omega
 |k+1,hk,j,h1,h2=>by
  rw[tq]at h1
  split at h1
  ·rcases Nat.lt_or_ge j k with h|h
   ·exact abw xs n k (by omega) j h1 h
   ·obtain rfl:j=k:=by omega
    assumption
  ·omega
theorem abx (xs:List Int) (n:Int):∀k,0<tq xs n k→¬xs.getD (tq xs n k-1) 0>n
 |0,h=>by simp[tq]at h
 |k+1,h=>by
  rw[tq]at h⊢
  split
  ·rename_i hc;rw[if_pos hc]at h;exact abx xs n k h
  ·rename_i hc;simpa using hc
theorem wv (xs:List Int) (n:Int) (h:xs.Pairwise (·<·)):(rh xs n).Pairwise (·<·):=by
 unfold rh
 split
 ·exact h
 ·rename_i hn
  have hle:=abv xs n xs.length;have hgt:=abw xs n xs.length (Nat.le_refl _);have hat:=abx xs n xs.length;generalize tq xs n xs.length=j at hle hgt hat;have hp:=List.pairwise_iff_getElem.1 h
  have h1:∀a∈xs.take j,a<n:=fun a ha=>by
   obtain⟨i,hi,rfl⟩:=List.getElem_of_mem ha;rw[List.length_take]at hi;rw[List.getElem_take];have hj:=hat (by omega);rw[List.getD_eq_getElem?_getD,List.getElem?_eq_getElem (by omega),Option.getD_some]at hj
   have hne:xs[j-1]≠n:=fun e=>hn (e▸List.getElem_mem _)
   rcases Nat.lt_or_ge i (j-1)with hl|hg
   ·have:=hp i (j-1) (by omega) (by omega) hl;omega
   ·obtain rfl:i=j-1:=by omega
    omega
  have h2:∀b∈xs.drop j,n<b:=fun b hb=>by
   obtain⟨i,hi,rfl⟩:=List.getElem_of_mem hb;rw[List.length_drop]at hi;rw[List.getElem_drop];have:=hgt (j+i) (by omega) (by omega);rw[List.getD_eq_getElem?_getD,List.getElem?_eq_getElem (by omega),Option.getD_some]at this;exact this
  rw[List.pairwise_append,List.pairwise_append];refine⟨⟨h.sublist (List.take_sublist ..),List.pairwise_singleton ..,fun a ha b hb=>by rw[List.mem_singleton.1 hb];exact h1 a ha⟩,h.sublist (List.drop_sublist ..),fun a ha b hb=> ?_⟩;rcases List.mem_append.1 ha with ha|ha
  ·have:=h1 a ha;have:=h2 b hb;omega
  ·rw[List.mem_singleton.1 ha];exact h2 b hb
end Go.Proofs.YtlecajlnjmbilaaGreatDoor.Q
namespace Go.Proofs.YtlecajlnjmbilaaGreatDoor.Q
open Go.RowKit Go.Proofs.YtlecajlnjmbilaaGreatDoor.P Go.Proofs.ab.ar Go.Proofs.ab.aV Go.Proofs.ab.aZ
theorem nU:∀(xs U:List Int),xs.Nodup→(∀x∈xs,x∈U)→xs.length≤U.length
 |[],_,_,_=>Nat.zero_le _
 |x::xs,U,h,hs=>by
  obtain⟨h1,h2⟩:=List.nodup_cons.1 h;have hx:=hs x (List.mem_cons_self ..);have:=nU xs (U.erase x) h2 (fun y hy=>(List.mem_erase_of_ne (fun(e:y=x)=>h1 (e▸hy))).2 (hs y (List.mem_cons_of_mem _ hy)));rw[List.length_erase_of_mem hx]at this;have:=List.length_pos_of_mem hx;simp only[List.length_cons]
  omega
theorem sn (xs U:List Int) (h:xs.Nodup) (hs:∀x∈xs,x∈U) (hl:U.length≤xs.length):∀y∈U,y∈xs:=fun y hy=>by
 apply Classical.byContradiction
 intro hn
 have:=nU (y::xs) U (List.nodup_cons.2 ⟨hn,h⟩) (fun z hz=>by
  rcases List.mem_cons.1 hz with rfl|hz
  ·exact hy
  ·exact hs z hz)
 simp only[List.length_cons]at this
 omega
theorem ri {l:List Int}(h:l.Pairwise (·<·)):l.Nodup:=h.imp (fun h e=>by omega)
section
variable (ex:Int→Bool) (kids:Int→List Int)
def mz (out es:List Int):List Int:=es.foldl (fun o e=>if ex e=true then rh o e else o) out
def oq (xs:List Int):List Int:=mz ex xs (xs.flatMap kids)
def xw:Nat→List Int→List Int
 |0,xs=>xs
 |n+1,xs=>xw n (oq ex kids xs)
def ug (xs:List Int):Prop:=∀x∈xs,∀y∈kids x,ex y=true→y∈xs
theorem uh (es:List Int):∀(out:List Int) (x:Int),x∈mz ex out es↔x∈out∨(x∈es∧ex x=true):=by
 induction es with
 |nil=>intro out x;simp[mz]
 |cons e es ih=>
  intro out x
  show x∈mz ex (if ex e=true then rh out e else out) es↔_
  rw[ih]
  by_cases c:ex e=true
  ·rw[if_pos c,uf,List.mem_cons]
   constructor
   ·rintro((h|rfl)|⟨h,k⟩)
    ·exact .inl h
    ·exact .inr ⟨.inl rfl,c⟩
    ·exact .inr ⟨.inr h,k⟩
   ·rintro(h|⟨rfl|h,k⟩)
    ·exact .inl (.inl h)
    ·exact .inl (.inr rfl)
    ·exact .inr ⟨h,k⟩
  ·rw[if_neg c,List.mem_cons]
   constructor
   ·rintro(h|⟨h,k⟩)
    ·exact .inl h
    ·exact .inr ⟨.inr h,k⟩
   ·rintro(h|⟨rfl|h,k⟩)
    ·exact .inl h
    ·exact absurd k c
    ·exact .inr ⟨h,k⟩
theorem qB (es:List Int):∀(out:List Int),out.Pairwise (·<·)→(mz ex out es).Pairwise (·<·):=by
 induction es with
 |nil=>intro out h;exact h
 |cons e es ih=>
  intro out h
  show(mz ex (if ex e=true then rh out e else out) es).Pairwise (·<·)
  refine ih _ ?_
  split
  ·exact wv out e h
  ·exact h
theorem lz (xs:List Int) (y:Int):y∈oq ex kids xs↔y∈xs∨((∃x∈xs,y∈kids x)∧ex y=true):=by
 unfold oq;rw[uh,List.mem_flatMap]
theorem aby:∀n (xs:List Int),xs.Pairwise (·<·)→(xw ex kids n xs).Pairwise (·<·)
 |0,_,h=>h
 |n+1,xs,h=>aby n _ (qB ex _ _ h)
theorem wx:∀n (xs:List Int),∀x∈xs,x∈xw ex kids n xs
 |0,_,_,h=>h
 |n+1,xs,x,h=>wx n _ x ((lz ex kids xs x).2 (.inl h))
theorem abz (K:List Int) (hK:ug ex kids K):∀n (xs:List Int),(∀x∈xs,x∈K)→∀x∈xw ex kids n xs,x∈K
 |0,_,h=>h
 |n+1,xs,h=>abz K hK n _ (fun x hx=>by
  rcases(lz ex kids xs x).1 hx with hx|⟨⟨z,hz,hk⟩,he⟩
  ·exact h x hx
  ·exact hK z (h z hz) x hk he)
theorem wy (xs:List Int) (h:oq ex kids xs=xs):∀n,xw ex kids n xs=xs
 |0=>rfl
 |n+1=>by rw[xw,h];exact wy xs h n
theorem ui (U:List Int) (hU:∀y,ex y=true→y∈U):∀n (xs:List Int),xs.Pairwise (·<·)→(∀x∈xs,x∈U)→U.length≤xs.length+n→ug ex kids (xw ex kids n xs)
 |0,xs,h,hs,hl=>fun x _ y _ he=>sn xs U (ri h) hs hl y (hU y he)
 |n+1,xs,h,hs,hl=>by
  by_cases c:oq ex kids xs=xs
  ·rw[wy ex kids xs c];intro x hx y hy he;rw[←c];exact(lz ex kids xs y).2 (.inr ⟨⟨x,hx,hy⟩,he⟩)
  ·refine ui U hU n _ (qB ex _ _ h) (fun x hx=> ?_) ?_
   ·rcases(lz ex kids xs x).1 hx with hx|⟨_,he⟩
    ·exact hs x hx
    ·exact hU x he
   ·have:xs.length<(oq ex kids xs).length:=by
     apply Classical.byContradiction
     intro hn;refine c (vL _ _ (qB ex _ _ h) h (fun x=>⟨fun hx=> ?_,fun hx=>(lz ex kids xs x).2 (.inl hx)⟩));exact sn xs (oq ex kids xs) (ri h) (fun y hy=>(lz ex kids xs y).2 (.inl hy)) (by omega) x hx
    omega
theorem vM (U out:List Int) (hU:∀y,ex y=true→y∈U) (h1:ex 1=true) (hn:out.Nodup) (ho:ug ex kids out) (h1o:1∈out) (hmin:∀K:List Int,ug ex kids K→1∈K→∀x∈out,x∈K):
  ng out=xw ex kids U.length [1]:=by
 have hs:=ui ex kids U hU U.length [1] (List.pairwise_singleton ..) (fun x hx=>by rw[List.mem_singleton.1 hx];exact hU 1 h1) (by omega);refine vL _ _ (abu out hn) (aby ex kids _ _ (List.pairwise_singleton ..)) (fun x=> ?_);rw[xn];exact⟨hmin _ hs (wx ex kids _ _ 1 (List.mem_singleton.2 rfl)) x,abz ex kids out ho _ _ (fun y hy=>by rw[List.mem_singleton.1 hy];exact h1o) x⟩
end
end Go.Proofs.YtlecajlnjmbilaaGreatDoor.Q
namespace Go.Proofs.YtlecajlnjmbilaaGreatDoor.Q
open Go.RowKit Go.Proofs.YtlecajlnjmbilaaGreatDoor.P Go.Proofs.ab.ar Go.Proofs.ab.aV Go.Proofs.ab.aZ
theorem rdI (xs:List Int) (i:Nat) (h:i<xs.length):rd xs (i:Int)=xs[i]:=by
 simp[rd,List.getD_eq_getElem?_getD,List.getElem?_eq_getElem h]
theorem abA (xs:List Int) (n:Int) (hl:xs.length≤9223372036854775807):Ev (fun k=>et.f k xs n) (decide (n∈xs)):=by
 have key:=down (n:=xs.length) (P:=fun i=>Ev (fun k=>et.l0 k xs n (i:Nat)) (decide (n∈xs.drop i))) (by
   apply aX
   simp only[et.l0,List.drop_length]
   exact du (by omega) (eP (Ev.now _) (by simp))) (fun i hi h=>by
   apply aX
   simp only[et.l0,rdI xs i hi];rw[mn i xs.length hi hl,List.drop_eq_getElem_cons hi];refine br (by omega) (br (by omega) ?_)
   by_cases c:xs[i]=n
   ·exact br c (eP (Ev.now _) (by simp[c]))
   ·exact du c (eP h (decide_eq_decide.2 ⟨fun h=>List.mem_cons_of_mem _ h,fun h=>(List.mem_cons.1 h).resolve_left (fun e=>c e.symm)⟩)))
 simpa [et.f]using key
theorem vN (xs:List Int) (n:Int) (hl:xs.length≤17592186044415):∀(j:Nat),j≤xs.length→∀c:Int,Ev (fun k=>cW.l0 k n (xs.take j++[c]++xs.drop j) (j:Nat)) (xs.take (tq xs n j)++[n]++xs.drop (tq xs n j)):=by
 have hset:∀(j:Nat) (c m:Int),j≤xs.length→(xs.take j++[c]++xs.drop j).set j m=xs.take j++[m]++xs.drop j:=fun j c m hj=>by
  have ht:(xs.take j).length=j:=by rw[List.length_take];omega
  rw[List.append_assoc,List.set_append_right _ _ (by omega),ht,Nat.sub_self,List.append_assoc];rfl
 have hlen:∀(j:Nat) (c:Int),j≤xs.length→(xs.take j++[c]++xs.drop j).length=xs.length+1:=fun j c hj=>by
  simp only[List.length_append,List.length_take,List.length_drop,List.length_singleton];omega
 intro j
 induction j with
 |zero=>
  intro hj c
  apply aX
  simp only[cW.l0,hlen 0 c hj,Int.toNat_natCast,hset 0 c n hj,tq];exact du (by omega) (br (by omega) (br (by omega) (Ev.now _)))
 |succ j ih=>
  intro hj c
  have hw:wrap64 (((j+1:Nat):Int)-1)=(j:Nat):=by rw[show((j+1:Nat):Int)-1=(j:Nat) by omega];exact lf (by omega) (by omega)
  have hr:rd (xs.take (j+1)++[c]++xs.drop (j+1)) (j:Nat)=xs[j]:=by
   rw[rdI _ j (by rw[hlen _ _ hj];omega)];rw[List.getElem_append_left (by simp only[List.length_append,List.length_take,List.length_singleton];omega),List.getElem_append_left (by rw[List.length_take];omega),List.getElem_take]
  apply aX
  simp only[cW.l0,hw,hr,hlen _ c hj,Int.toNat_natCast,hset (j+1) c _ hj];refine br (by omega) (br (by omega) (br (by omega) ?_))
  have hg:xs.getD j 0=xs[j]:=by rw[List.getD_eq_getElem?_getD,List.getElem?_eq_getElem (by omega)];rfl
  by_cases cc:xs[j]>n
  ·refine br cc (br (by omega) (br (by omega) ?_))
   have e:xs.take (j+1)++[xs[j]]++xs.drop (j+1)=xs.take j++[xs[j]]++xs.drop j:=by
    rw[List.take_succ_eq_append_getElem (by omega),List.append_assoc,List.append_assoc,List.append_assoc,List.drop_eq_getElem_cons (i:=j) (by omega)];rfl
   rw[e,tq,if_pos (by rw[hg];exact cc)];exact ih (by omega) _
  ·refine du cc (br (by omega) (br (by omega) (eP (Ev.now _) ?_)));rw[tq,if_neg (by rw[hg];exact cc)]
theorem abB (xs:List Int) (n:Int) (hl:xs.length≤17592186044414):Ev (fun k=>cW.f k xs n) (rh xs n):=by
 unfold cW.f;refine Ev.bind (abA xs n (by omega)) ?_
 by_cases c:n∈xs
 ·refine br (by simp[c]) (eP (Ev.now _) ?_);unfold rh;rw[if_pos c]
 ·refine du (by simp[c]) ?_;simp only[Option.bind_some,List.nil_append,List.length_nil];refine br (by omega) (br (by omega) ?_);have h:=vN xs n (by omega) xs.length (Nat.le_refl _) n;rw[List.take_length,List.drop_length,List.append_nil]at h
  have hw:wrap64 (((xs++[n]).length:Int)-1)=(xs.length:Nat):=by
   rw[List.length_append,List.length_singleton,show((xs.length+1:Nat):Int)-1=(xs.length:Nat) by omega];exact lf (by omega) (by omega)
  rw[hw];refine eP h ?_;unfold rh;rw[if_neg c]
end Go.Proofs.YtlecajlnjmbilaaGreatDoor.Q
namespace Go.Proofs.YtlecajlnjmbilaaGreatDoor.Q
open Go.RowKit Go.Proofs.YtlecajlnjmbilaaGreatDoor.P Go.Proofs.ab.ar Go.Proofs.ab.aV Go.Proofs.ab.aZ
def iX (l:List bg) (n:Int):List Int:=if eJ l n=true∧(fJ l n).f1=2 then(fJ l n).f4.map (·.f1)else []
theorem vO (l:List bg) (n:Int) (h:eJ l n=true):n∈l.map (·.f0):=by
 apply Classical.byContradiction
 intro hn;have:=tM n l 0 (fun x hx e=>hn (List.mem_map.2 ⟨x,hx,e⟩));unfold eJ at h;rw[this]at h;simp at h
structure px (l:List bg) (xs:List Int):Prop where
 lt:xs.Pairwise (·<·)
 ex:∀x∈xs,eJ l x=true
theorem px.len {l:List bg}{xs:List Int}(h:px l xs):xs.length≤l.length:=by
 have:=nU xs (l.map (·.f0)) (ri h.lt) (fun x hx=>vO l x (h.ex x hx))
 rwa [List.length_map]at this
theorem px.put {l:List bg}{xs:List Int}(h:px l xs) (n:Int) (hn:eJ l n=true):px l (rh xs n):=
 ⟨wv xs n h.lt,fun x hx=>by rcases(uf xs n x).1 hx with hx|rfl;exact h.ex x hx;exact hn⟩
theorem xo (l:List bg) (nx:Int) (xs:List Int) (i:Int) (x:bg) (R:List Int) (hl:l.length≤1048576) (he:x.f4.length≤1048576) (hk:x.f1=2)
  (fin:List Int) (hfin:Ev (fun k=>ay.l0 k xs fin (wrap64 (i+1)) l nx) R):
  ∀(m:Nat),m≤x.f4.length→∀out,px l out→mz (eJ l) out ((x.f4.drop (x.f4.length-m)).map (·.f1))=fin→Ev (fun k=>ay.l1 k xs out i true ((x.f4.length-m:Nat):Int) l nx x.f0 x.f1 x.f2 x.f3 x.f4 x.f5) R:=by
 intro m
 induction m with
 |zero=>
  intro _ out ho hf;rw[Nat.sub_zero,List.drop_length]at hf;have hf':out=fin:=hf;subst hf'
  apply aX
  simp only[ay.l1,Nat.sub_zero];refine du (by omega) ?_
  apply aX
  simp only[ay.j2];exact du (by decide) hfin
 |succ m ih=>
  intro hm out ho hf
  have hj:x.f4.length-(m+1)<x.f4.length:=by omega
  have hrd:al x.f4 ((x.f4.length-(m+1):Nat):Int)=x.f4[x.f4.length-(m+1)]:=getD_at x.f4 _ _ hj;rw[List.drop_eq_getElem_cons hj,show x.f4.length-(m+1)+1=x.f4.length-m by omega]at hf
  apply aX
  simp only[ay.l1];refine br (by omega) (br trivial ?_)
  apply aX
  simp only[ay.j2,hrd];rw[mn _ x.f4.length hj (by omega),show x.f4.length-(m+1)+1=x.f4.length-m by omega];refine br (by simp[hk]) (br (by omega) (br (by omega) (Ev.bind (nT l nx _ hl) ?_)))
  by_cases c:0≤cz x.f4[x.f4.length-(m+1)].f1 l 0
  ·have hx:eJ l x.f4[x.f4.length-(m+1)].f1=true:=decide_eq_true c;have hlen:=ho.len;refine br c (Ev.bind (abB out _ (by omega)) (ih (by omega) _ (ho.put _ hx) ?_));rw[←hf];simp only[mz,List.map_cons,List.foldl_cons,if_pos hx]
  ·have hx:¬eJ l x.f4[x.f4.length-(m+1)].f1=true:=by unfold eJ;simpa using c
   refine du c (ih (by omega) _ ho ?_);rw[←hf];simp only[mz,List.map_cons,List.foldl_cons,if_neg hx]
theorem xp (l:List bg) (nx:Int) (xs:List Int) (i:Int) (x:bg) (ok:Bool) (R out:List Int) (hno:¬(ok=true∧x.f1=2)) (hfin:Ev (fun k=>ay.l0 k xs out (wrap64 (i+1)) l nx) R):
  Ev (fun k=>ay.l1 k xs out i ok 0 l nx x.f0 x.f1 x.f2 x.f3 x.f4 x.f5) R:=by
 apply aX
 simp only[ay.l1];refine vl (fun _=>vl (fun hk=> ?_) (fun _=> ?_)) (fun _=> ?_)
 ·apply aX
  simp only[ay.j2];exact du (by have:x.f1≠2:=fun e=>hno ⟨hk,e⟩;simpa using this) hfin
 ·apply aX
  simp only[ay.j2];exact du (by decide) hfin
 ·apply aX
  simp only[ay.j2];exact du (by decide) hfin
theorem uj (ex:Int→Bool) (out a b:List Int):mz ex out (a++b)=mz ex (mz ex out a) b:=List.foldl_append
theorem px.add {l:List bg}{out:List Int}(h:px l out) (es:List Int):px l (mz (eJ l) out es):=
 ⟨qB _ _ _ h.lt,fun x hx=>by rcases(uh (eJ l) es out x).1 hx with hx|⟨_,hx⟩;exact h.ex x hx;exact hx⟩
theorem xq (l:List bg) (nx:Int) (xs:List Int) (hl:l.length≤1048576) (hs:∀x∈l,hO x) (hx:px l xs):Ev (fun k=>ay.f k l nx xs) (oq (eJ l) (iX l) xs):=by
 have hlen:=hx.len
 have key:=down (n:=xs.length) (P:=fun i=>Ev (fun k=>ay.l0 k xs (mz (eJ l) xs ((xs.take i).flatMap (iX l))) (i:Nat) l nx) (oq (eJ l) (iX l) xs)) (by
   apply aX
   simp only[ay.l0,List.take_length]
   exact du (by omega) (Ev.now _)) (fun i hi h=>by
   have hrd:=rdI xs i hi
   have hst:mz (eJ l) xs ((xs.take (i+1)).flatMap (iX l))=mz (eJ l) (mz (eJ l) xs ((xs.take i).flatMap (iX l))) (iX l xs[i]):=by
    rw[List.take_succ_eq_append_getElem hi,List.flatMap_append,uj];simp
   rw[hst]at h;have ho:=hx.add ((xs.take i).flatMap (iX l));generalize mz (eJ l) xs ((xs.take i).flatMap (iX l))=out at h ho⊢
   apply aX
   simp only[ay.l0,hrd];refine br (by omega) (br (by omega) (Ev.bind (pv l nx xs[i] hl hs) ?_));have hsm:=iN l xs[i] hs;rw[←mn i xs.length hi (by omega)]at h;dsimp only
   by_cases c:eJ l xs[i]=true∧(fJ l xs[i]).f1=2
   ·have hk:iX l xs[i]=(fJ l xs[i]).f4.map (·.f1):=if_pos c;rw[hk]at h;have:=xo l nx xs i (fJ l xs[i]) _ hl hsm.e c.2 _ h _ (Nat.le_refl _) out ho (by rw[Nat.sub_self,List.drop_zero]);rw[Nat.sub_self]at this;rw[c.1];exact this
   ·have hk:iX l xs[i]=[]:=if_neg c;rw[hk]at h
    exact xp l nx xs i (fJ l xs[i]) _ _ out c h)
 simpa [ay.f,mz]using key
theorem px.next {l:List bg}{xs:List Int}(h:px l xs):px l (oq (eJ l) (iX l) xs):=h.add _
theorem tm (l:List bg) (nx:Int) (hl:l.length≤1048576) (hs:∀x∈l,hO x):Ev (fun k=>dm.f k l nx) (if eJ l 1=true then xw (eJ l) (iX l) l.length [1]else []):=by
 unfold dm.f;simp only[Option.bind_some];refine Ev.bind (nT l nx 1 hl) ?_
 by_cases c:cz 1 l 0<0
 ·have:¬eJ l 1=true:=by unfold eJ;simp;omega
  exact br c (eP (Ev.now _) (by rw[if_neg this]))
 ·have h1:eJ l 1=true:=decide_eq_true (by omega);rw[if_pos h1];refine du c (br (by simp) ?_)
  have key:∀(m:Nat),m≤l.length→∀xs,px l xs→Ev (fun k=>dm.l0 k xs ((l.length-m:Nat):Int) l nx) (xw (eJ l) (iX l) m xs):=by
   intro m
   induction m with
   |zero=>
    intro _ xs _
    apply aX
    simp only[dm.l0];exact du (by omega) (Ev.now _)
   |succ m ih=>
    intro hm xs hx
    apply aX
    simp only[dm.l0];refine br (by omega) (Ev.bind (xq l nx xs hl hs hx) ?_);rw[mn _ l.length (by omega) (by omega),show l.length-(m+1)+1=l.length-m by omega];exact ih (by omega) _ hx.next
  have:=key l.length (Nat.le_refl _) [1] ⟨List.pairwise_singleton ..,fun x hx=>by rw[List.mem_singleton.1 hx];exact h1⟩;rw[Nat.sub_self]at this;exact this
end Go.Proofs.YtlecajlnjmbilaaGreatDoor.Q
namespace Go.Proofs.YtlecajlnjmbilaaGreatDoor.Q
open Go.RowKit Go.Proofs.YtlecajlnjmbilaaGreatDoor.P Go.Proofs.ab.ar Go.Proofs.ab.aV Go.Proofs.ab.aZ
theorem uk (l:List bg) (nx:Int) (out:List Int) (e:List ed) (R:List Int) (he:e.length≤1048576):
  ∀(m:Nat),m≤e.length→∀q,q.length+m<17592186044416→Ev (fun k=>aQ.l0 k out (q++(e.drop (e.length-m)).map (·.f1)) l nx) R→Ev (fun k=>aQ.l1 k out q e (e.length:Int) ((e.length-m:Nat):Int) l nx) R:=by
 intro m
 induction m with
 |zero=>
  intro _ q _ h;rw[Nat.sub_zero,List.drop_length,List.map_nil,List.append_nil]at h
  apply aX
  simp only[aQ.l1,Nat.sub_zero];exact du (by omega) h
 |succ m ih=>
  intro hm q hq h
  have hj:e.length-(m+1)<e.length:=by omega
  have hrd:al e ((e.length-(m+1):Nat):Int)=e[e.length-(m+1)]:=getD_at e _ _ hj;rw[List.drop_eq_getElem_cons hj,show e.length-(m+1)+1=e.length-m by omega,List.map_cons]at h
  apply aX
  simp only[aQ.l1,hrd];rw[mn _ e.length hj (by omega),show e.length-(m+1)+1=e.length-m by omega];refine br (by omega) (br (by omega) (br (by omega) (br (by omega) (ih (by omega) _ (by simp only[List.length_append,List.length_singleton];omega) ?_))));rw[List.append_assoc];exact h
structure rj (l:List bg) (out q:List Int):Prop where
 nd:out.Nodup
 ex:∀x∈out,eJ l x=true
 sh:∀x∈out,∀y∈iX l x,eJ l y=true→y∈out∨y∈q
 one:eJ l 1=true→1∈out∨1∈q
 mi:∀K:List Int,ug (eJ l) (iX l) K→(eJ l 1=true→1∈K)→(∀x∈out,x∈K)∧∀y∈q,eJ l y=true→y∈K
 ln:q.length≤1+out.length*1048576
theorem rj.len {l:List bg}{out q:List Int}(h:rj l out q):out.length≤l.length:=by
 have:=nU out (l.map (·.f0)) h.nd (fun x hx=>vO l x (h.ex x hx))
 rwa [List.length_map]at this
theorem xr (l:List bg) (n:Int) (hs:∀x∈l,hO x):(iX l n).length≤1048576:=by
 have h:=(iN l n hs).e;unfold iX
 split
 ·rwa [List.length_map]
 ·simp
theorem rj.old {l:List bg}{out q:List Int}{n:Int}(h:rj l out (n::q)) (ho:¬(eJ l n=true∧n∉out)):rj l out q:=by
 have hn:eJ l n=true→n∈out:=fun e=>Classical.byContradiction fun c=>ho ⟨e,c⟩
 refine⟨h.nd,h.ex,fun x hx y hy he=> ?_,fun e=> ?_,fun K hK h1=>⟨(h.mi K hK h1).1,fun y hy=>(h.mi K hK h1).2 y (List.mem_cons_of_mem _ hy)⟩,by have:=h.ln;simp only[List.length_cons]at this;omega⟩
 ·rcases h.sh x hx y hy he with a|a
  ·exact .inl a
  ·rcases List.mem_cons.1 a with rfl|a
   ·exact .inl (hn he)
   ·exact .inr a
 ·rcases h.one e with a|a
  ·exact .inl a
  ·rcases List.mem_cons.1 a with a|a
   ·exact .inl (a▸hn (a▸e))
   ·exact .inr a
theorem rj.new {l:List bg}{out q:List Int}{n:Int}(hs:∀x∈l,hO x) (h:rj l out (n::q)) (he:eJ l n=true) (hn:n∉out):rj l (out++[n]) (q++iX l n):=by
 have hk:=xr l n hs;refine⟨?_,fun x hx=> ?_,fun x hx y hy hey=> ?_,fun e=> ?_,fun K hK h1=>⟨fun x hx=> ?_,fun y hy hey=> ?_⟩,?_⟩
 ·rw[List.nodup_append];exact⟨h.nd,by simp,fun a ha b hb=>by rw[List.mem_singleton.1 hb];exact fun e=>hn (e▸ha)⟩
 ·rcases List.mem_append.1 hx with hx|hx
  ·exact h.ex x hx
  ·rw[List.mem_singleton.1 hx];exact he
 ·rcases List.mem_append.1 hx with hx|hx
  ·rcases h.sh x hx y hy hey with a|a
   ·exact .inl (List.mem_append.2 (.inl a))
   ·rcases List.mem_cons.1 a with rfl|a
    ·exact .inl (List.mem_append.2 (.inr (List.mem_singleton.2 rfl)))
    ·exact .inr (List.mem_append.2 (.inl a))
  ·rw[List.mem_singleton.1 hx]at hy;exact .inr (List.mem_append.2 (.inr hy))
 ·rcases h.one e with a|a
  ·exact .inl (List.mem_append.2 (.inl a))
  ·rcases List.mem_cons.1 a with a|a
   ·exact .inl (List.mem_append.2 (.inr (List.mem_singleton.2 a)))
   ·exact .inr (List.mem_append.2 (.inl a))
 ·rcases List.mem_append.1 hx with hx|hx
  ·exact(h.mi K hK h1).1 x hx
  ·rw[List.mem_singleton.1 hx];exact(h.mi K hK h1).2 n (List.mem_cons_self ..) he
 ·rcases List.mem_append.1 hy with hy|hy
  ·exact(h.mi K hK h1).2 y (List.mem_cons_of_mem _ hy) hey
  ·exact hK n ((h.mi K hK h1).2 n (List.mem_cons_self ..) he) y hy hey
 ·have:=h.ln;simp only[List.length_append,List.length_cons,List.length_singleton,List.length_nil]at this⊢
  omega
theorem lX (l:List bg) (nx:Int) (hl:l.length≤1048576) (hs:∀x∈l,hO x) (out q:List Int) (n:Int) (R:List Int) (hi:rj l out (n::q))
  (hold:¬(eJ l n=true∧n∉out)→Ev (fun k=>aQ.l0 k out q l nx) R) (hnew:eJ l n=true→n∉out→Ev (fun k=>aQ.l0 k (out++[n]) (q++iX l n) l nx) R):Ev (fun k=>aQ.l0 k out (n::q) l nx) R:=by
 have hlen:=hi.len;have hln:=hi.ln;simp only[List.length_cons]at hln;have hrd:rd (n::q) 0=n:=rfl;have hdr:(n::q).drop (1:Int).toNat=q:=rfl;have hsm:=iN l n hs
 apply aX
 simp only[aQ.l0,hrd,hdr,Option.bind_some];refine br (by simp only[List.length_cons];omega) (br (by simp only[List.length_cons];omega) (br (by simp only[List.length_cons];omega) (Ev.bind (my l nx n hl hs) ?_)));dsimp only
 by_cases c:eJ l n=true
 ·have hc:dn.f out n=some (out.contains n):=by unfold dn.f;rw[if_pos (by omega)]
  refine br c ?_;simp only[hc,Option.bind_some]
  by_cases cc:n∈out
  ·have:out.contains n=true:=by simpa using cc
   rw[this]
   apply aX
   simp only[aQ.j1];exact br trivial (hold (fun h=>h.2 cc))
  ·have:out.contains n=false:=by simpa using cc
   rw[this];have h:=hnew c cc
   apply aX
   simp only[aQ.j1,Option.bind_some];refine du (by decide) (br (by omega) ?_)
   by_cases hk:(fJ l n).f1=2
   ·have e:iX l n=(fJ l n).f4.map (·.f1):=if_pos ⟨c,hk⟩;rw[e]at h;refine br hk ?_;have hln2:out.length*1048576≤1048576*1048576:=Nat.mul_le_mul_right _ (by omega);have he:=hsm.e;have:=uk l nx (out++[n]) (fJ l n).f4 R hsm.e _ (Nat.le_refl _) q (by omega) (by rw[Nat.sub_self,List.drop_zero];exact h);rw[Nat.sub_self]at this;exact this
   ·have e:iX l n=[]:=if_neg (fun h=>hk h.2);rw[e,List.append_nil]at h;exact du hk h
 ·refine du c ?_
  apply aX
  simp only[aQ.j1];exact br trivial (hold (fun h=>c h.1))
theorem rJ (l:List bg) (nx:Int) (hl:l.length≤1048576) (hs:∀x∈l,hO x):∀(d:Nat) (q out:List Int),l.length-out.length≤d→rj l out q→∃o,Ev (fun k=>aQ.l0 k out q l nx) (ng o)∧rj l o []:=by
 intro d
 induction d with
 |zero=>
  intro q
  induction q with
  |nil=>
   intro out _ h;refine⟨out,?_,h⟩;have:=h.len
   apply aX
   simp only[aQ.l0];exact du (by simp) (br (by omega) (Ev.now _))
  |cons n q ihq=>
   intro out hd h
   by_cases c:eJ l n=true∧n∉out
   ·have:=(h.new hs c.1 c.2).len;simp only[List.length_append,List.length_singleton]at this
    omega
   ·obtain⟨o,ho,hi⟩:=ihq out hd (h.old c);exact⟨o,lX l nx hl hs out q n _ h (fun _=>ho) (fun a b=>absurd ⟨a,b⟩ c),hi⟩
 |succ d ih=>
  intro q
  induction q with
  |nil=>
   intro out _ h;refine⟨out,?_,h⟩;have:=h.len
   apply aX
   simp only[aQ.l0];exact du (by simp) (br (by omega) (Ev.now _))
  |cons n q ihq=>
   intro out hd h
   by_cases c:eJ l n=true∧n∉out
   ·obtain⟨o,ho,hi⟩:=ih (q++iX l n) (out++[n]) (by simp only[List.length_append,List.length_singleton];omega) (h.new hs c.1 c.2);exact⟨o,lX l nx hl hs out q n _ h (fun a=>absurd c a) (fun _ _=>ho),hi⟩
   ·obtain⟨o,ho,hi⟩:=ihq out hd (h.old c);exact⟨o,lX l nx hl hs out q n _ h (fun _=>ho) (fun a b=>absurd ⟨a,b⟩ c),hi⟩
theorem tp (l:List bg) (nx:Int) (hl:l.length≤1048576) (hs:∀x∈l,hO x):Ev (fun k=>aQ.f k l nx) (if eJ l 1=true then xw (eJ l) (iX l) l.length [1]else []):=by
 obtain⟨o,ho,hi⟩:=rJ l nx hl hs l.length [1] [] (by omega) ⟨List.nodup_nil,(fun x hx=>by cases hx),(fun x hx=>by cases hx),(fun _=> .inr (List.mem_singleton.2 rfl)),(fun K hK h1=>⟨(fun x hx=>by cases hx),(fun y hy he=>by rw[List.mem_singleton.1 hy]at he⊢;exact h1 he)⟩),by simp⟩;unfold aQ.f;refine eP ho ?_
 by_cases c:eJ l 1=true
 ·rw[if_pos c];have h1o:1∈o:=(hi.one c).resolve_right (by simp);have:=vM (eJ l) (iX l) (l.map (·.f0)) o (fun y hy=>vO l y hy) c hi.nd (fun x hx y hy he=>(hi.sh x hx y hy he).resolve_right (by simp)) h1o (fun K hK h1=>(hi.mi K hK (fun _=>h1)).1);rw[List.length_map]at this;exact this
 ·rw[if_neg c];have:o=[]:=List.eq_nil_iff_forall_not_mem.2 (fun x hx=>by have:=(hi.mi [] (fun x hx=>by cases hx) (fun e=>absurd e c)).1 x hx;cases this);rw[this];exact List.eq_nil_of_length_eq_zero (by rw[lq];rfl)
end Go.Proofs.YtlecajlnjmbilaaGreatDoor.Q
namespace Go.Proofs.YtlecajlnjmbilaaGreatDoor.Q
open Go.RowKit Go.Proofs.YtlecajlnjmbilaaGreatDoor.P Go.Proofs.ab.ar Go.Proofs.ab.aV Go.Proofs.ab.aZ
theorem rm (n:Int) (l:List bg) (h:∀x∈l,x.f4.length≤1048576):ez n l≤l.length*1048576:=by
 induction l with
 |nil=>simp[ez]
 |cons x m ih=>
  have e:fW n x≤1048576:=by
   have:=h x (List.mem_cons_self ..);unfold fW
   split
   ·have:=List.length_filter_le (fun y:ed=>decide (y.f1=n)) x.f4;unfold fe;omega
   ·omega
  have:=ih (fun y hy=>h y (List.mem_cons_of_mem _ hy));simp only[ez,List.map_cons,List.sum_cons,List.length_cons]at this⊢
  omega
def na (l:List bg) (e:List ed):Bool:=e.all fun x=>eJ l x.f1
def qf (l xs:List bg):Bool:=xs.all fun x=>decide (x.f2=(ez x.f0 l:Int))&&na l x.f4
def rn (l:List bg):List Int:=if eJ l 1=true then xw (eJ l) (iX l) l.length [1]else []
def nH (l:List bg) (nx:Int):Bool:=pq l nx&&(decide ((rn l).length=l.length)&&qf l l)
theorem rp (l:List bg) (i:Nat) (hi:i<l.length):qf l (l.drop i)=(decide (l[i].f2=(ez l[i].f0 l:Int))&&na l l[i].f4&&qf l (l.drop (i+1))):=by
 unfold qf;rw[List.drop_eq_getElem_cons hi,List.all_cons]
theorem qg (l:List bg) (e:List ed) (j:Nat) (hj:j<e.length):na l (e.drop j)=(eJ l e[j].f1&&na l (e.drop (j+1))):=by
 unfold na;rw[List.drop_eq_getElem_cons hj,List.all_cons]
theorem rq (l:List bg) (nx i:Int) (x:bg) (Z:Bool) (hl:l.length≤1048576) (he:x.f4.length≤1048576) (hfin:Ev (fun k=>aC.l0 k (wrap64 (i+1)) l nx) Z):
  Ev (fun k=>aC.l1 k i 0 l nx x.f0 x.f1 x.f2 x.f3 x.f4 x.f5) (na l x.f4&&Z):=by
 have key:=down (n:=x.f4.length) (P:=fun j=>Ev (fun k=>aC.l1 k i (j:Nat) l nx x.f0 x.f1 x.f2 x.f3 x.f4 x.f5) (na l (x.f4.drop j)&&Z)) (by
   apply aX
   simp only[aC.l1,List.drop_length]
   exact du (by omega) hfin) (fun j hj h=>by
   have hrd:al x.f4 (j:Int)=x.f4[j]:=getD_at x.f4 _ j hj
   apply aX
   simp only[aC.l1,hrd];rw[mn j x.f4.length hj (by omega),qg l x.f4 j hj];refine br (by omega) (br (by omega) (Ev.bind (nT l nx _ hl) ?_))
   by_cases c:cz x.f4[j].f1 l 0<0
   ·refine br c (eP (Ev.now _) ?_);unfold eJ;rw[decide_eq_false (by omega)];rfl
   ·refine du c (eP h ?_)
    unfold eJ;rw[decide_eq_true (by omega)];rfl)
 simpa using key
theorem rr (l:List bg) (nx:Int) (hl:l.length≤1048576) (hs:∀x∈l,x.f4.length≤1048576):Ev (fun k=>aC.l0 k 0 l nx) (qf l l):=by
 have key:=down (n:=l.length) (P:=fun i=>Ev (fun k=>aC.l0 k (i:Nat) l nx) (qf l (l.drop i))) (by
   apply aX
   simp only[aC.l0,List.drop_length]
   exact du (by omega) (Ev.now _)) (fun i hi h=>by
   have hrd:af l (i:Int)=l[i]:=getD_at l _ i hi;have hx:=hs _ (List.getElem_mem hi);have hu:=rm l[i].f0 l hs;have hu2:l.length*1048576≤1048576*1048576:=Nat.mul_le_mul_right _ hl;rw[←mn i l.length hi (by omega)]at h
   apply aX
   simp only[aC.l0,hrd];rw[rp l i hi];refine br (by omega) (br (by omega) (Ev.bind (vD l nx _ hl hs (by omega)) ?_))
   by_cases c:((ez l[i].f0 l:Nat):Int)=l[i].f2
   ·refine br c (eP (rq l nx i l[i] _ hl hx h) ?_);rw[decide_eq_true c.symm,Bool.true_and]
   ·refine du c (eP (Ev.now _) ?_)
    rw[decide_eq_false (fun e=>c e.symm)];rfl)
 simpa using key
theorem um (l:List bg) (nx:Int) (hl:l.length≤1048576) (hs:∀x∈l,po x):Ev (fun k=>aC.f k l nx) (nH l nx):=by
 have hA:∀x∈l,hO x:=fun x hx=>⟨(hs x hx).d,(hs x hx).e,(hs x hx).t⟩
 unfold aC.f nH;refine Ev.bind (vB l nx hl hs) ?_
 by_cases c1:pq l nx=true
 ·refine br c1 (Ev.bind (tm l nx hl hA) ?_);rw[c1,Bool.true_and]
  change Ev (fun k=>aC.j0 k (((rn l).length:Int) !=(l.length:Int)) l nx) _
  apply aX
  simp only[aC.j0]
  by_cases c2:(rn l).length=l.length
  ·refine du (by simp[c2]) (eP (rr l nx hl (fun x hx=>(hs x hx).e)) ?_);rw[decide_eq_true c2,Bool.true_and]
  ·refine br (by simp;omega) (eP (Ev.now _) ?_);rw[decide_eq_false c2];rfl
 ·refine du c1 ?_
  apply aX
  simp only[aC.j0];refine br trivial (eP (Ev.now _) ?_);rw[show pq l nx=false by simpa using c1];rfl
theorem ru (l:List bg) (nx i:Int) (e:List ed) (Z:Bool) (hl:l.length≤1048576) (he:e.length≤1048576) (hfin:Ev (fun k=>bb.l0 k l (l.length:Int) (wrap64 (i+1)) l nx) Z):
  Ev (fun k=>bb.l1 k l (l.length:Int) i e (e.length:Int) 0 l nx) (na l e&&Z):=by
 have key:=down (n:=e.length) (P:=fun j=>Ev (fun k=>bb.l1 k l (l.length:Int) i e (e.length:Int) (j:Nat) l nx) (na l (e.drop j)&&Z)) (by
   apply aX
   simp only[bb.l1,List.drop_length]
   exact du (by omega) hfin) (fun j hj h=>by
   have hrd:al e (j:Int)=e[j]:=getD_at e _ j hj
   apply aX
   simp only[bb.l1,hrd];rw[mn j e.length hj (by omega),qg l e j hj]
   have hp:Ev (fun k=>eh.f k l nx e[j].f1) (cz e[j].f1 l 0):=by unfold eh.f;exact br (by omega) (Ev.now _)
   refine br (by omega) (br (by omega) (br (by omega) (Ev.bind hp ?_)))
   by_cases c:cz e[j].f1 l 0<0
   ·refine br c (eP (Ev.now _) ?_);unfold eJ;rw[decide_eq_false (by omega)];rfl
   ·refine du c (eP h ?_)
    unfold eJ;rw[decide_eq_true (by omega)];rfl)
 simpa using key
theorem rv (l:List bg) (nx:Int) (hl:l.length≤1048576) (hs:∀x∈l,x.f4.length≤1048576):Ev (fun k=>bb.l0 k l (l.length:Int) 0 l nx) (qf l l):=by
 have key:=down (n:=l.length) (P:=fun i=>Ev (fun k=>bb.l0 k l (l.length:Int) (i:Nat) l nx) (qf l (l.drop i))) (by
   apply aX
   simp only[bb.l0,List.drop_length]
   exact du (by omega) (Ev.now _)) (fun i hi h=>by
   have hrd:af l (i:Int)=l[i]:=getD_at l _ i hi;have hx:=hs _ (List.getElem_mem hi);have hu:=rm l[i].f0 l hs;have hu2:l.length*1048576≤1048576*1048576:=Nat.mul_le_mul_right _ hl;rw[←mn i l.length hi (by omega)]at h
   apply aX
   simp only[bb.l0,hrd];rw[rp l i hi];refine br (by omega) (br (by omega) (br (by omega) (Ev.bind (vE l nx _ hl hs (by omega)) ?_)))
   by_cases c:l[i].f2=((ez l[i].f0 l:Nat):Int)
   ·refine br c (eP (ru l nx i l[i].f4 _ hl hx h) ?_);rw[decide_eq_true c,Bool.true_and]
   ·refine du c (eP (Ev.now _) ?_)
    rw[decide_eq_false c];rfl)
 simpa using key
theorem uo (l:List bg) (nx:Int) (hl:l.length≤1048576) (hs:∀x∈l,po x):Ev (fun k=>bb.f k l nx) (nH l nx):=by
 have hA:∀x∈l,hO x:=fun x hx=>⟨(hs x hx).d,(hs x hx).e,(hs x hx).t⟩
 unfold bb.f nH;refine Ev.bind (vC l nx hl hs) ?_
 by_cases c1:pq l nx=true
 ·refine br c1 (Ev.bind (tp l nx hl hA) ?_);rw[c1,Bool.true_and]
  change Ev (fun k=>bb.j0 k (((rn l).length:Int) !=(l.length:Int)) l nx) _
  apply aX
  simp only[bb.j0]
  by_cases c2:(rn l).length=l.length
  ·refine du (by simp[c2]) (eP (rv l nx hl (fun x hx=>(hs x hx).e)) ?_);rw[decide_eq_true c2,Bool.true_and]
  ·refine br (by simp;omega) (eP (Ev.now _) ?_);rw[decide_eq_false c2];rfl
 ·refine du c1 ?_
  apply aX
  simp only[bb.j0];refine br trivial (eP (Ev.now _) ?_);rw[show pq l nx=false by simpa using c1];rfl
end Go.Proofs.YtlecajlnjmbilaaGreatDoor.Q
namespace Go.Proofs.YtlecajlnjmbilaaGreatDoor.Q
open Go.RowKit Go.Proofs.YtlecajlnjmbilaaGreatDoor.P Go.Proofs.ab.ar Go.Proofs.ab.aV Go.Proofs.ab.aZ
theorem ot (l:List bg) (nx:Int) (hl:l.length≤1048576) (hs:∀x∈l,hO x):Ev (fun k=>ck.f k l nx) (l,nx):=by
 have key:=down (n:=l.length) (P:=fun i=>Ev (fun k=>ck.l0 k l (l.length:Int) (i:Nat) (l.take i) nx) (l,nx)) (by
   apply aX
   simp only[ck.l0,List.take_length]
   exact du (by omega) (Ev.now _)) (fun i hi h=>by
   have hrd:af l (i:Int)=l[i]:=getD_at l _ i hi
   apply aX
   simp only[ck.l0,hrd,ra l[i] (hs _ (List.getElem_mem hi)),Option.bind_some];rw[mn i l.length hi (by omega)];refine br (by omega) (br (by omega) (br (by omega) (br (by rw[List.length_take];omega) ?_)));rw[List.take_succ_eq_append_getElem hi]at h
   exact h)
 simpa [ck.f]using key
end Go.Proofs.YtlecajlnjmbilaaGreatDoor.Q
namespace Go.Proofs.YtlecajlnjmbilaaGreatDoor.Q
open Go.RowKit Go.Proofs.YtlecajlnjmbilaaGreatDoor.P Go.Proofs.ab.ar Go.Proofs.ab.aV Go.Proofs.ab.aZ
theorem lY (l:List bg) (nx:Int) (hl:l.length≤1048576) (hs:∀x∈l,hO x):Ev (fun k=>cr.f k l nx) (l,nx):=by
 have key:=down (n:=l.length) (P:=fun i=>Ev (fun k=>cr.l0 k (i:Nat) l nx (l.take i) nx) (l,nx)) (by
   apply aX
   simp only[cr.l0,List.take_length]
   exact du (by omega) (Ev.now _)) (fun i hi h=>by
   have hrd:af l (i:Int)=l[i]:=getD_at l _ i hi
   apply aX
   simp only[cr.l0,hrd,pt l[i] (hs _ (List.getElem_mem hi)),Option.bind_some];rw[mn i l.length hi (by omega)];refine br (by omega) (br (by omega) (br (by rw[List.length_take];omega) ?_));rw[List.take_succ_eq_append_getElem hi]at h
   exact h)
 simpa [cr.f]using key
def kT (ino:Int):List bg→Nat
 |[]=>0
 |y::l=>if y.f0<ino then kT ino l+1 else 0
theorem vP (ino:Int) (l:List bg):∀j:Nat,cz ino l j<0→∀y∈l,y.f0≠ino:=by
 induction l with
 |nil=>intro j _ y hy;cases hy
 |cons x l ih=>
  intro j h y hy;rw[cz]at h
  split at h
  ·omega
  ·rcases List.mem_cons.1 hy with rfl|hy
   ·assumption
   ·exact ih _ h y hy
theorem abC (ino:Int) (l:List bg):(∀y∈l,y.f0≠ino)→∀j:Nat,(tT ino l j= -1∧kT ino l=l.length)∨(tT ino l j=((j+kT ino l:Nat):Int)∧kT ino l<l.length):=by
 induction l with
 |nil=>intro _ j;exact .inl ⟨rfl,rfl⟩
 |cons x l ih=>
  intro h j;have hx:=h x (List.mem_cons_self ..);rw[tT,kT]
  by_cases c:ino<x.f0
  ·rw[if_pos c,if_neg (by omega)];exact .inr ⟨by simp,by simp⟩
  ·rw[if_neg c,if_pos (by omega)];rcases ih (fun y hy=>h y (List.mem_cons_of_mem _ hy)) (j+1)with⟨h1,h2⟩|⟨h1,h2⟩
   ·exact .inl ⟨h1,by rw[h2];rfl⟩
   ·exact .inr ⟨by rw[h1];congr 1;omega,by simp only[List.length_cons];omega⟩
theorem abD (ino:Int) (l:List bg) (h:cz ino l 0<0):gtP ino l=kT ino l:=by
 unfold gtP;rcases abC ino l (vP ino l 0 h) 0 with⟨h1,h2⟩|⟨h1,h2⟩
 ·rw[h1,if_pos (by omega),h2]
 ·rw[h1,if_neg (by omega)];omega
theorem abE (ino:Int) (l:List bg):kT ino l≤l.length:=by
 induction l with
 |nil=>exact Nat.le_refl _
 |cons x l ih=>rw[kT,List.length_cons];split<;>omega
theorem uq (x:bg) (l:List bg):(lV x l).length≤l.length+1:=by
 unfold lV
 split
 ·rw[List.length_set];omega
 ·simp only[List.length_append,List.length_take,List.length_drop,List.length_singleton];omega
theorem abF (x y:bg) (l:List bg) (h:y∈lV x l):y=x∨y∈l:=by
 unfold lV at h
 split at h
 ·rcases List.mem_or_eq_of_mem_set h with h|h
  ·exact .inr h
  ·exact .inl h
 ·rcases List.mem_append.1 h with h|h
  ·rcases List.mem_append.1 h with h|h
   ·exact .inr (List.mem_of_mem_take h)
   ·exact .inl (by simpa using h)
  ·exact .inr (List.mem_of_mem_drop h)
theorem mj (a b:List bg):cM (a++b)=cM a+cM b:=by unfold cM;rw[List.map_append,List.sum_append]
theorem vQ (x:bg) (l:List bg):cM (lV x l)≤cM l+lL x:=by
 unfold lV
 split
 ·generalize (cz x.f0 l 0).toNat=i;rw[List.set_eq_take_append_cons_drop]
  split
  ·have h:cM l=cM (l.take i)+cM (l.drop i):=by rw[←mj,List.take_append_drop]
   have h2:cM (l.drop (i+1))≤cM (l.drop i):=by
    rcases Nat.lt_or_ge i l.length with hi|hi
    ·rw[List.drop_eq_getElem_cons hi];unfold cM;rw[List.map_cons,List.sum_cons];omega
    ·rw[List.drop_of_length_le hi,List.drop_of_length_le (by omega)];exact Nat.le_refl _
   have h3:cM (x::l.drop (i+1))=lL x+cM (l.drop (i+1)):=by unfold cM;simp
   rw[mj,h3]
   omega
  ·omega
 ·generalize gtP x.f0 l=i
  have h:cM l=cM (l.take i)+cM (l.drop i):=by rw[←mj,List.take_append_drop]
  rw[mj,mj]
  have:cM [x]=lL x:=by unfold cM;simp
  omega
theorem abG (l:List bg) (nx:Int) (x:bg) (hl:l.length≤1048576) (hs:∀x∈l,hO x) (hx:hO x):Ev (fun k=>ic.f k l nx x.f0 x.f1 x.f2 x.f3 x.f4 x.f5) (lV x l,nx):=by
 unfold ic.f;refine Ev.bind (ot l nx hl hs) ?_;simp only[ra x hx,Option.bind_some];exact br (by omega) (Ev.now _)
theorem abH (l:List bg) (nx:Int) (x:bg) (hl:l.length≤1048576) (hs:∀x∈l,hO x) (hx:hO x):Ev (fun k=>aW.f k l nx x.f0 x.f1 x.f2 x.f3 x.f4 x.f5) (lV x l,nx):=by
 have hr:=kR x.f0 l 0;unfold aW.f;refine Ev.bind (lY l nx hl hs) (Ev.bind (nT l nx x.f0 hl) ?_)
 by_cases c:0≤cz x.f0 l 0
 ·simp only[pt x hx,Option.bind_some];refine br c (br c (br (by omega) (eP (Ev.now _) ?_)));unfold lV;rw[if_pos c]
 ·refine du c ?_
  have hp:lV x l=l.take (kT x.f0 l)++[x]++l.drop (kT x.f0 l):=by
   unfold lV;rw[if_neg c,abD _ _ (by omega)]
  rw[hp];have hle:=abE x.f0 l
  have key:=down (n:=l.length) (P:=fun i=>i+kT x.f0 (l.drop i)=kT x.f0 l→Ev (fun k=>aW.l0 k (i:Nat) l nx x.f0 x.f1 x.f2 x.f3 x.f4 x.f5 l nx) (l.take (kT x.f0 l)++[x]++l.drop (kT x.f0 l),nx)) (fun hi=>by
    rw[List.drop_length]at hi
    have hi':l.length=kT x.f0 l:=by rw[←hi];rfl
    apply aX
    simp only[aW.l0,pt x hx,Option.bind_some,Int.toNat_natCast,List.nil_append,List.length_nil];refine du (by omega) (br (by omega) (br (by omega) (br (by rw[List.length_take];omega) (br (by rw[List.length_take];omega) (br (by simp only[List.length_append,List.length_take,List.length_drop,List.length_singleton];omega) (eP (Ev.now _) ?_))))))
    rw[←hi']) (fun i hi h hd=>by
    have hrd:af l (i:Int)=l[i]:=getD_at l _ i hi;rw[List.drop_eq_getElem_cons hi,kT]at hd
    apply aX
    simp only[aW.l0,hrd,pt x hx,Option.bind_some,Int.toNat_natCast,List.nil_append,List.length_nil];rw[mn i l.length hi (by omega)];refine br (by omega) (br (by omega) ?_)
    by_cases cc:l[i].f0<x.f0
    ·rw[if_pos cc]at hd;exact br cc (h (by omega))
    ·rw[if_neg cc]at hd;refine du cc (br (by omega) (br (by rw[List.length_take];omega) (br (by rw[List.length_take];omega) (br (by simp only[List.length_append,List.length_take,List.length_drop,List.length_singleton];omega) (eP (Ev.now _) ?_)))))
     rw[show i=kT x.f0 l by omega])
  exact key (by simp)
end Go.Proofs.YtlecajlnjmbilaaGreatDoor.Q
namespace Go.Proofs.YtlecajlnjmbilaaGreatDoor.Q
open Go.RowKit Go.Proofs.YtlecajlnjmbilaaGreatDoor.P Go.Proofs.ab.ar Go.Proofs.ab.aV Go.Proofs.ab.aZ
end Go.Proofs.YtlecajlnjmbilaaGreatDoor.Q
namespace Go.Proofs.YtlecajlnjmbilaaGreatDoor.Q
open Go.RowKit Go.Proofs.YtlecajlnjmbilaaGreatDoor.P Go.Proofs.ab.ar Go.Proofs.ab.aV Go.Proofs.ab.aZ
end Go.Proofs.YtlecajlnjmbilaaGreatDoor.Q
namespace Go.Proofs.YtlecajlnjmbilaaGreatDoor.Q
open Go.RowKit Go.Proofs.YtlecajlnjmbilaaGreatDoor.P Go.Proofs.ab.ar Go.Proofs.ab.aV Go.Proofs.ab.aZ
end Go.Proofs.YtlecajlnjmbilaaGreatDoor.Q
namespace Go.Proofs.YtlecajlnjmbilaaGreatDoor.Q
open Go.RowKit Go.Proofs.YtlecajlnjmbilaaGreatDoor.P Go.Proofs.ab.ar Go.Proofs.ab.aV Go.Proofs.ab.aZ
end Go.Proofs.YtlecajlnjmbilaaGreatDoor.Q
namespace Go.Proofs.YtlecajlnjmbilaaGreatDoor.Q
open Go.RowKit Go.Proofs.YtlecajlnjmbilaaGreatDoor.P Go.Proofs.ab.ar Go.Proofs.ab.aV Go.Proofs.ab.aZ
theorem po.a {x:bg}(h:po x):hO x:=⟨h.d,h.e,h.t⟩
def nE (T:List bg) (nx:Int) (ps:List ByteArray):Bool:=ps.all (fun p=>(jn p).2)&&nH T nx
theorem abI (T:List bg) (nx:Int) (ps:List ByteArray) (hT:T.length≤1048576) (hs:∀x∈T,po x) (hp:∀p∈ps,p.size≤1048576) (hn:ps.length≤1048576):Ev (fun k=>er.f k T nx ps) (nE T nx ps):=by
 have key:=down (n:=ps.length) (P:=fun i=>Ev (fun k=>er.l0 k ps (ps.length:Int) (i:Nat) T nx) ((ps.drop i).all (fun p=>(jn p).2)&&nH T nx)) (by
   apply aX
   simp only[er.l0,List.drop_length]
   exact du (by omega) (Ev.bind (uo T nx hT hs) (eP (Ev.now _) (by simp)))) (fun i hi h=>by
   have hrd:kX ByteArray.empty ps (i:Int)=ps[i]:=getD_at ps _ i hi
   apply aX
   simp only[er.l0,hrd];rw[mn i ps.length hi (by omega),List.drop_eq_getElem_cons hi,List.all_cons];refine br (by omega) (br (by omega) (br (by omega) (Ev.bind (rf _ (hp _ (List.getElem_mem hi))) ?_)))
   by_cases c:(jn ps[i]).2=true
   ·exact br c (eP h (by rw[c,Bool.true_and]))
   ·exact du c (eP (Ev.now _) (by rw[show(jn ps[i]).2=false by simpa using c];rfl)))
 simpa [er.f,nE]using key
def acy (x:bg) (d:List Int):bg:=⟨x.f0,x.f1,x.f2,d,x.f4,x.f5⟩
def kx (T:List bg) (p:ByteArray):bg×Int:=if(ke T p).2=0∧(ke T p).1.f1≠1 then((ke T p).1,3)else ke T p
theorem xt (T:List bg) (nx:Int) (p:ByteArray) (hT:T.length≤1048576) (hs:∀x∈T,hO x) (hp:p.size≤1048576):Ev (fun k=>jd.f k T nx p) (wu (kx T p)):=by
 unfold jd.f;refine Ev.bind (xl T nx p hT hs hp) ?_;unfold kx;simp only[wu]
 by_cases c1:(ke T p).2=0
 ·refine br c1 ?_
  by_cases c2:(ke T p).1.f1=1
  ·exact br c2 (eP (Ev.now _) (by rw[if_neg (fun h=>h.2 c2)]))
  ·exact du c2 (eP (Ev.now _) (by rw[if_pos ⟨c1,c2⟩]))
 ·exact du c1 (eP (Ev.now _) (by rw[if_neg (fun h=>c1 h.1)]))
theorem nD (T:List bg) (p:ByteArray) (hs:∀x∈T,hO x):hO (kx T p).1:=by
 unfold kx
 split
 ·exact qe T p hs
 ·exact qe T p hs
def oh (d:List Int) (n:Nat):List Int:=d.take (min d.length n)++(List.replicate n 0).drop (min d.length n)
theorem pg (d:List Int) (n:Nat):(oh d n).length=n:=by
 simp only[oh,List.length_append,List.length_take,List.length_drop,List.length_replicate];omega
def mu (T:List bg) (nx:Int) (p:ByteArray) (n:Int):List bg×Int×Int:=
 if nE T nx [p]=true∧(0≤n∧n≤100)then
  (if(kx T p).2=0 then(lV (acy (kx T p).1 (oh ((kx T p).1.f3.take (min n.toNat (kx T p).1.f3.length)) n.toNat)) T,nx,0)
   else(T,nx,(kx T p).2))
 else(T,nx,1)
theorem vn (T:List bg) (nx:Int) (p:ByteArray) (n:Int) (hT:T.length≤1048576) (hs:∀x∈T,po x) (hp:p.size≤1048576):Ev (fun k=>gh.f k T nx p n) (mu T nx p n):=by
 have hA:∀x∈T,hO x:=fun x hx=>(hs x hx).a
 unfold gh.f;refine Ev.bind (ot T nx hT hA) (Ev.bind (abI T nx [p] hT hs (fun q hq=>by rw[List.mem_singleton.1 hq];exact hp) (by simp)) ?_);unfold mu;dsimp only
 by_cases c1:nE T nx [p]=true∧(0≤n∧n≤100)
 ·refine br ⟨c1.1,decide_eq_true c1.2⟩ ?_;rw[if_pos c1];refine Ev.bind (xt T nx p hT hA hp) ?_;have hf:=nD T p hA;simp only[wu];generalize kx T p=s at*
  by_cases c2:s.2=0
  ·refine br c2 ?_;rw[if_pos c2]
   have hsz:kj.f (s.1.f3.take (min n.toNat s.1.f3.length)) n=some (oh (s.1.f3.take (min n.toNat s.1.f3.length)) n.toNat):=by
    unfold kj.f;rw[if_pos ⟨c1.2.1,by have:=c1.2;omega⟩]
    rfl
   simp only[hsz,Option.bind_some];refine Ev.bind (abG T nx (acy s.1 (oh (s.1.f3.take (min n.toNat s.1.f3.length)) n.toNat)) hT hA ⟨?_,hf.e,hf.t⟩) (Ev.now _)
   show(oh (s.1.f3.take (min n.toNat s.1.f3.length)) n.toNat).length≤1048576
   rw[pg];have:=c1.2;omega
  ·exact du c2 (eP (Ev.now _) (by rw[if_neg c2]))
 ·refine du (fun h=>c1 ⟨h.1,of_decide_eq_true h.2⟩) (eP (Ev.now _) (by rw[if_neg c1]))
end Go.Proofs.YtlecajlnjmbilaaGreatDoor.Q
namespace Go.Proofs.YtlecajlnjmbilaaGreatDoor.Q
open Go.RowKit Go.Proofs.YtlecajlnjmbilaaGreatDoor.P Go.Proofs.ab.ar Go.Proofs.ab.aV Go.Proofs.ab.aZ
structure Bd (Y:List bg):Prop where
 len:Y.length≤1048577
 a:∀y∈Y,hO y
 w:cM Y≤4611686018427380000
theorem vR (x:bg) (h:hO x):lL x≤5242883:=by
 have h1:=h.d;have h2:=h.e;have h3:=h.t;unfold lL inW
 omega
theorem Bd.of (T:List bg) (hT:T.length≤1048576) (hA:∀x∈T,hO x) (hw:cM T≤1000000000000):Bd T:=⟨by omega,hA,by omega⟩
theorem Bd.set1 (T:List bg) (x:bg) (hT:T.length≤1048576) (hA:∀x∈T,hO x) (hw:cM T≤1000000000000) (hx:hO x):Bd (lV x T):=by
 have h1:=vQ x T;have h2:=vR x hx;refine⟨Nat.le_trans (uq _ _) (by omega),fun y hy=> ?_,by omega⟩;rcases abF _ _ _ hy with rfl|hy
 ·exact hx
 ·exact hA y hy
theorem Bd.filter {Y:List bg}(h:Bd Y) (f:bg→Bool):Bd (Y.filter f):=
 ⟨Nat.le_trans (List.length_filter_le ..) h.len,fun y hy=>h.a y (List.mem_filter.1 hy).1,Nat.le_trans (tf f Y) h.w⟩
theorem ab9 (T:List bg) (nx:Int) (Y:List bg) (m c:Int) (hT:T.length≤1048576) (hA:∀x∈T,hO x) (hw:cM T≤1000000000000) (hY:Bd Y):
  Ev (fun k=>(fu.f k Y m Y m).bind fun e1=>(fu.f k T nx T nx).bind fun e2=>(ei.f k T 1).bind fun mt=>(ei.f k Y 1).bind fun mm=>(eQ.f k mm.2 m 1).bind fun q=>
   if c=c∧e1=true∧e2=true∧¬mt.1<0∧¬q<0∧q=mm.1∧mm.2.length=Y.length then some true else none) true:=by
 have hl2:=hY.len;have hw2:=hY.w;obtain⟨mt,m1,_,_,_⟩:=abq T 1 hT (by omega) (by omega);obtain⟨mg,m2,k2,k3,hh⟩:=sg Y 1 hl2 (by omega) (by omega);have m3:=xe mg m 1 (by omega) (by omega) (by omega) hh;rw[k3]at m3;refine Ev.bind (q_ Y m (by omega) (rb hY.a)) (Ev.bind (q_ T nx (by omega) (rb hA)) (Ev.bind m1 (Ev.bind m2 (Ev.bind m3 (br ?_ (Ev.now _))))));exact⟨rfl,rfl,rfl,by dsimp only;omega,by omega,rfl,k2⟩
theorem abb (l:List ma) (h:∀x∈l,acd x):∀x∈l.map jm,po x:=by
 intro x hx;obtain⟨y,hy,rfl⟩:=List.mem_map.1 hx;have hS:=h y hy;refine⟨hS.d,by simpa [jm]using hS.e,by simpa [jm]using hS.t,fun z hz=> ?_,fun z hz=> ?_⟩
 ·obtain⟨u,hu,rfl⟩:=List.mem_map.1 hz;exact hS.en u hu
 ·obtain⟨u,hu,rfl⟩:=List.mem_map.1 hz;exact(hS.tn u hu).1
end Go.Proofs.YtlecajlnjmbilaaGreatDoor.Q
namespace Go.Proofs.YtlecajlnjmbilaaGreatDoor.Q
open Go.RowKit Go.Proofs.YtlecajlnjmbilaaGreatDoor.P Go.Proofs.ab.ar Go.Proofs.ab.aV Go.Proofs.ab.aZ
def pM (T:List bg) (p:ByteArray):bg×Int:=if(ke T p).2=0∧(ke T p).1.f1≠1 then(tk,3)else ke T p
theorem ur (T:List bg) (p:ByteArray):(pM T p).2=(kx T p).2:=by
 unfold pM kx;split<;>rfl
theorem uu (T:List bg) (p:ByteArray) (h:(kx T p).2=0):pM T p=kx T p:=by
 unfold kx at h;unfold pM kx
 split
 ·rename_i c;rw[if_pos c]at h;cases h
 ·rfl
theorem xu (T:List bg) (nx:Int) (p:ByteArray) (hT:T.length≤1048576) (hs:∀x∈T,hO x) (hp:p.size≤1048576):Ev (fun k=>iG.f k T nx p) (wu (pM T p)):=by
 unfold iG.f pM;refine Ev.bind (xm T nx p hT hs hp) ?_;simp only[wu]
 by_cases c:(ke T p).2=0
 ·refine br c ?_
  by_cases c2:(ke T p).1.f1=1
  ·refine br c2 (eP (Ev.now _) ?_);rw[if_neg (fun h=>h.2 c2)]
  ·refine du c2 (eP (Ev.now _) ?_);rw[if_pos ⟨c,c2⟩];rfl
 ·refine du c (eP (Ev.now _) ?_);rw[if_neg (fun h=>c h.1)]
theorem ready_one (T:List bg) (nx:Int) (p:ByteArray):nE T nx [p]=true↔(nH T nx=true∧(jn p).2=true):=by
 unfold nE;simp only[List.all_cons,List.all_nil,Bool.and_true,Bool.and_eq_true];exact⟨fun h=>⟨h.2,h.1⟩,fun h=>⟨h.2,h.1⟩⟩
theorem uv (d:List Int) (n:Nat) (h:d.length≤n):oh d n=d++List.replicate (n-d.length) 0:=by
 unfold oh;rw[Nat.min_eq_left h,List.take_length,List.drop_replicate]
theorem vS (d:List Int) (n:Nat):(d++List.replicate (n-d.length) 0).take n=oh (d.take (min n d.length)) n:=by
 rcases Nat.le_total d.length n with h|h
 ·rw[Nat.min_eq_right h,List.take_length,uv d n h];exact List.take_of_length_le (by simp;omega)
 ·rw[Nat.min_eq_left h,uv _ _ (by rw[List.length_take];omega),List.length_take,Nat.min_eq_left h,Nat.sub_self,Nat.sub_eq_zero_of_le h];simp
theorem np (T:List bg) (nx n:Int) (hT:T.length≤1048576) (hA:∀x∈T,hO x) (h0:0≤n) (hn:n≤1048576) (a b c:Int) (e:List ed) (t:List eg) (he:e.length≤1048576) (ht:t.length≤1048576):
  ∀m (d:List Int),n.toNat-d.length=m→d.length≤1048576→Ev (fun k=>cf.l0 k n T nx a b c d e t) (lV ⟨a,b,c,(d++List.replicate m 0).take n.toNat,e,t⟩ T,nx,0)
 |0,d,hm,hd=>by
  apply aX
  simp only[cf.l0];refine du (by omega) (br h0 (br (by omega) ?_));rw[List.replicate_zero,List.append_nil];exact Ev.bind (abH T nx ⟨a,b,c,d.take n.toNat,e,t⟩ hT hA ⟨by rw[List.length_take];show min _ _≤_;omega,he,ht⟩) (Ev.now _)
 |m+1,d,hm,hd=>by
  apply aX
  simp only[cf.l0];refine br (by omega) (br (by omega) ?_);have h:=np T nx n hT hA h0 hn a b c e t he ht m (d++[0]) (by simp;omega) (by simp;omega);rw[List.append_assoc]at h;exact h
theorem vm (T:List bg) (nx:Int) (p:ByteArray) (n:Int) (hT:T.length≤1048576) (hs:∀x∈T,po x) (hp:p.size≤1048576):Ev (fun k=>cf.f k T nx p n) (mu T nx p n):=by
 have hA:∀x∈T,hO x:=fun x hx=>(hs x hx).a
 have bad:¬(nE T nx [p]=true∧(0≤n∧n≤100))→Ev (fun k=>cf.j0 k p n true T nx) (mu T nx p n):=by
  intro c
  apply aX
  simp only[cf.j0];refine br trivial (Ev.bind (lY T nx hT hA) (eP (Ev.now _) ?_));unfold mu;rw[if_neg c]
 unfold cf.f;refine Ev.bind (rg p hp) (Ev.bind (um T nx hT hs) ?_)
 by_cases c1:nH T nx=true
 ·refine br c1 ?_
  by_cases c2:(jn p).2=true
  ·refine br c2 ?_;simp only[mw,Option.bind_some]
   by_cases c3:0≤n∧n≤100
   ·rw[decide_eq_true c3]
    apply aX
    simp only[cf.j0,Bool.not_true];refine du (by decide) (Ev.bind (xu T nx p hT hA hp) ?_);have hc:=ur T p;have hf:=nD T p hA;unfold mu;rw[if_pos ⟨(ready_one T nx p).2 ⟨c1,c2⟩,c3⟩];simp only[wu]
    by_cases c4:(kx T p).2=0
    ·rw[uu T p c4];refine br c4 ?_;rw[if_pos c4];have hd:=hf.d;refine eP (np T nx n hT hA c3.1 (by omega) _ _ _ _ _ hf.e hf.t _ (kx T p).1.f3 rfl hd) ?_;rw[vS]
     rfl
    ·refine du (by rw[hc];exact c4) (Ev.bind (lY T nx hT hA) (eP (Ev.now _) ?_));rw[if_neg c4,hc]
   ·rw[decide_eq_false c3];exact bad (fun h=>c3 h.2)
  ·exact du c2 (bad (fun h=>c2 ((ready_one T nx p).1 h.1).2))
 ·exact du c1 (bad (fun h=>c1 ((ready_one T nx p).1 h.1).1))
end Go.Proofs.YtlecajlnjmbilaaGreatDoor.Q
