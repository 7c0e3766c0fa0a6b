/- What the functions that the law reaches answer, in plain words. No condition. -/
import Derived.Sort.Walk0
import Derived.Test.YtlecajlnjmbilaaGreatDoorKinds
import Derived.Test.YtlecajlnjmbilaaGreatDoorPx16
set_option linter.all false
namespace Go.Proofs.YtlecajlnjmbilaaGreatDoor.Q
open Go.RowKit Go.Proofs.ab.ao Go.Proofs.ab.aE Go.Proofs.ab.aI
theorem aX {α:Type}{g:Nat→Option α}{r:α}(h:Ev (fun k=>g (k+1)) r):Ev g r:=by
 obtain⟨K,h⟩:=h;refine⟨K+1,fun n hn=> ?_⟩;obtain⟨m,rfl⟩:∃m,n=m+1:=⟨n-1,by omega⟩;exact h m (by omega)
theorem bn {α:Type}{c:Prop} [Decidable c] {A B:Nat→Option α}{r:α}(hc:c) (h:Ev A r):Ev (fun k=>if c then A k else B k) r:=by
 simpa only[if_pos hc]using h
theorem dv {α:Type}{c:Prop} [Decidable c] {A B:Nat→Option α}{r:α}(hc:¬c) (h:Ev B r):Ev (fun k=>if c then A k else B k) r:=by
 simpa only[if_neg hc]using h
theorem yz {α:Type}{c:Prop} [Decidable c] {A B:Nat→Option α}{r s:α}(hp:c→Ev A r) (hn:¬c→Ev B s):Ev (fun k=>if c then A k else B k) (if c then r else s):=by
 by_cases hc:c
 ·simpa only[if_pos hc]using hp hc
 ·simpa only[if_neg hc]using hn hc
theorem wO {α:Type}{c:Prop} [Decidable c] {A B:Nat→Option α}{r:α}(hp:c→Ev A r) (hn:¬c→Ev B r):Ev (fun k=>if c then A k else B k) r:=by
 by_cases hc:c
 ·simpa only[if_pos hc]using hp hc
 ·simpa only[if_neg hc]using hn hc
theorem eW {α:Type}{g:Nat→Option α}{r s:α}(h:Ev g r) (e:r=s):Ev g s:=e▸h
theorem lC {n:Int}(h0: -9223372036854775808≤n) (h1:n≤9223372036854775807):wrap64 n=n:=by
 unfold wrap64
 omega
theorem drop_cons (l:List Int) (i:Nat) (h:i<l.length):l.drop i=rd l i::l.drop (i+1):=by
 rw[List.drop_eq_getElem_cons h];simp[Go.Proofs.ab.ao.rd,List.getElem?_eq_getElem h]
theorem toList_data (s:ByteArray):s.toList=s.data.toList:=by
 simp[ByteArray.toList_eq]
end Go.Proofs.YtlecajlnjmbilaaGreatDoor.Q
namespace Go.Proofs.YtlecajlnjmbilaaGreatDoor.Q
open Go.RowKit Go.Proofs.YtlecajlnjmbilaaGreatDoor.P Go.Proofs.ab.ao Go.Proofs.ab.aE Go.Proofs.ab.aI
def lg (c:Int):Bool:=decide (97≤c∧c≤122∨48≤c∧c≤57∨c=95∨c=45∨c=46)
def kZ (s:ByteArray):Bool:=decide (1≤s.size∧s.size≤14)&&s.toList !=([46]:List UInt8)&&s.toList !=([46,46]:List UInt8)
def fR (s:ByteArray):Bool:=(bytesOf s).all lg&&kZ s
theorem oM (a b c:Int):aY.f a b c=some (decide (b≤a∧a≤c)):=by
 unfold aY.f
 by_cases h:a≥b
 ·rw[if_pos h];simp[show b≤a from h]
 ·rw[if_neg h];simp[show¬b≤a from h]
theorem tW (s:ByteArray):((aY.f (s.size:Int) 1 14).bind fun t101=>(if t101=true then(if s.toList=([46]:List UInt8)then(some false)else(some (s.toList !=([46,46]:List UInt8))))else(some false)))=some (kZ s):=by
 rw[oM];simp only[Option.bind_some,kZ]
 by_cases h:1≤s.size∧s.size≤14
 ·rw[if_pos (by simp;omega)]
  by_cases h1:s.toList=[46]
  ·simp[h1]
  ·rw[if_neg h1];simp[h,h1]
 ·rw[if_neg (by simp;omega)];simp[h]
theorem tX (s:ByteArray):(if(s.size:Int)≥1 then(if(s.size:Int)≤14 then(if s.toList=([46]:List UInt8)then(some false)else(some (s.toList !=([46,46]:List UInt8))))else(some false))else(some false))=some (kZ s):=by
 unfold kZ
 by_cases h:1≤s.size
 ·rw[if_pos (by omega)]
  by_cases h2:s.size≤14
  ·rw[if_pos (by omega)]
   by_cases h1:s.toList=[46]
   ·simp[h1]
   ·rw[if_neg h1];simp[h,h2,h1]
  ·rw[if_neg (by omega)];simp[h2]
 ·rw[if_neg (by omega)];simp[h]
theorem rR (s:ByteArray) (i:Nat) (h:i<s.size):(bytesOf s).drop i=bt s i::(bytesOf s).drop (i+1):=by
 rw[drop_cons _ _ (by rw[bytesOf_length];exact h),wb]
theorem rT (s:ByteArray) (hs:s.size≤9223372036854775807) (n:Nat):∀(i:Nat),i≤s.size→s.size-i=n→
  Ev (fun k=>aM.l0 k s i) (((bytesOf s).drop i).all lg&&kZ s):=by
 induction n with
 |zero=>
  intro i hi hn
  apply aX
  simp only[aM.l0];refine dv (by omega) ?_;rw[tW,List.drop_eq_nil_of_le (by rw[bytesOf_length];omega)]
  simpa using Ev.now _
 |succ n ih=>
  intro i hi hn
  have hlt:i<s.size:=by omega
  have hr:=uH s i;have ih:=ih (i+1) (by omega) (by omega);rw[show((i+1:Nat):Int)=wrap64 ((i:Int)+1)from by rw[lC (by omega) (by omega)];simp]at ih
  apply aX
  simp only[aM.l0,oM,Option.bind_some];rw[rR s i hlt,List.all_cons];refine bn (by omega) (bn (by omega) ?_);rw[lC (by omega) (by omega)];generalize bt s i=c at*
  by_cases h1:97≤c∧c≤122
  ·refine bn (by simp[h1]) (eW ih ?_);simp[lg,h1]
  refine dv (by simp;omega) ?_
  by_cases h2:48≤c∧c≤57
  ·refine bn (by simp[h2]) (eW ih ?_);simp[lg,h2]
  refine dv (by simp;omega) ?_
  by_cases h3:c=95
  ·refine bn h3 (eW ih ?_);simp[lg,h3]
  refine dv h3 ?_
  by_cases h4:c=45
  ·refine bn h4 (eW ih ?_);simp[lg,h4]
  refine dv h4 ?_
  by_cases h5:c=46
  ·refine bn h5 (eW ih ?_);simp[lg,h5]
  refine dv h5 (eW (Ev.now _) ?_)
  have:lg c=false:=by simp[lg];omega
  simp[this]
theorem lW (s:ByteArray) (hs:s.size≤9223372036854775807):Ev (fun k=>aM.f k s) (fR s):=by
 have h:=rT s hs s.size 0 (by omega) (by omega)
 simpa [aM.f,fR]using h
theorem rU (s:ByteArray) (hs:s.size≤9223372036854775807) (n:Nat):∀(i:Nat),i≤s.size→s.size-i=n→
  Ev (fun k=>aD.l0 k s (s.size:Int) i) (((bytesOf s).drop i).all lg&&kZ s):=by
 induction n with
 |zero=>
  intro i hi hn
  apply aX
  simp only[aD.l0];refine dv (by omega) ?_;rw[tX,List.drop_eq_nil_of_le (by rw[bytesOf_length];omega)]
  simpa using Ev.now _
 |succ n ih=>
  intro i hi hn
  have hlt:i<s.size:=by omega
  have hr:=uH s i;have ih:=ih (i+1) (by omega) (by omega);rw[show((i+1:Nat):Int)=wrap64 ((i:Int)+1)from by rw[lC (by omega) (by omega)];simp]at ih
  apply aX
  simp only[aD.l0];rw[rR s i hlt,List.all_cons];refine bn (by omega) (bn (by omega) (bn (by omega) ?_));generalize bt s i=c at*
  by_cases hg:lg c=true
  ·have e:(((bytesOf s).drop (i+1)).all lg&&kZ s)=(lg c&&((bytesOf s).drop (i+1)).all lg&&kZ s):=by simp[hg]
   replace ih:=eW ih e;simp only[lg,decide_eq_true_eq]at hg
   repeat(first|exact ih|refine wO (fun _=> ?_) (fun _=> ?_)|(exfalso;omega))
  ·have e:false=(lg c&&((bytesOf s).drop (i+1)).all lg&&kZ s):=by simp[hg]
   have no:=eW (Ev.now false) e;simp only[lg,decide_eq_true_eq]at hg
   repeat(first|exact no|refine wO (fun _=> ?_) (fun _=> ?_)|(exfalso;omega))
theorem qm (s:ByteArray) (hs:s.size≤9223372036854775807):Ev (fun k=>aD.f k s) (fR s):=by
 have h:=rU s hs s.size 0 (by omega) (by omega)
 simpa [aD.f,fR]using h
end Go.Proofs.YtlecajlnjmbilaaGreatDoor.Q
namespace Go.Proofs.YtlecajlnjmbilaaGreatDoor.Q
open Go.RowKit Go.Proofs.YtlecajlnjmbilaaGreatDoor.P Go.Proofs.ab.ao Go.Proofs.ab.aE Go.Proofs.ab.aI
theorem abh (l:List Int) (n i:Nat) (hn:n=l.length) (hi:i<n):(l.take i++List.replicate (n-i) 0).set i (rd l i)=l.take (i+1)++List.replicate (n-(i+1)) 0:=by
 subst hn;rw[List.set_append,if_neg (by rw[List.length_take];omega),show i-(l.take i).length=0 from by rw[List.length_take];omega];obtain⟨m,hm⟩:∃m,l.length-i=m+1:=⟨l.length-i-1,by omega⟩;rw[hm,List.replicate_succ,List.set_cons_zero,show l.length-(i+1)=m from by omega,List.take_succ_eq_append_getElem hi,List.append_assoc]
 have:rd l i=l[i]:=by simp[Go.Proofs.ab.ao.rd,List.getElem?_eq_getElem hi]
 rw[this]
 rfl
theorem tY (l:List Int) (hl:l.length≤9223372036854775807) (n:Nat):∀(i:Nat),i≤l.length→l.length-i=n→
  Ev (fun k=>ed.l0 k l (l.take i++List.replicate (l.length-i) 0) i) l:=by
 induction n with
 |zero=>
  intro i hi hn
  apply aX
  simp only[ed.l0];refine dv (by omega) ?_;rw[List.take_of_length_le (by omega),hn]
  simpa using Ev.now l
 |succ n ih=>
  intro i hi hn;have ih:=ih (i+1) (by omega) (by omega);rw[show((i+1:Nat):Int)=wrap64 ((i:Int)+1)from by rw[lC (by omega) (by omega)];simp]at ih
  apply aX
  simp only[ed.l0];refine bn (by omega) (bn (by omega) (bn (by simp[List.length_append,List.length_take];omega) ?_));rw[Int.toNat_natCast,abh l _ i rfl (by omega)];exact ih
theorem wP (l:List Int) (hl:l.length≤281474976710656):Ev (fun k=>ed.f k l) l:=by
 have h:=tY l (by omega) l.length 0 (by omega) (by omega)
 simpa [ed.f,hl]using h
theorem aci (a b:List Int) (i:Nat) (ha:i<a.length) (hb:i<b.length):decide (a.drop i=b.drop i)=(decide (rd a i=rd b i)&&decide (a.drop (i+1)=b.drop (i+1))):=by
 rw[drop_cons a i ha,drop_cons b i hb]
 by_cases h:rd a i=rd b i<;>simp[h]
theorem tZ (a b:List Int) (hab:a.length=b.length) (hl:a.length≤9223372036854775807) (n:Nat):∀(i:Nat),i≤a.length→a.length-i=n→
  Ev (fun k=>dr.l0 k a b i) (decide (a.drop i=b.drop i)):=by
 induction n with
 |zero=>
  intro i hi hn
  apply aX
  simp only[dr.l0];refine dv (by omega) ?_;rw[List.drop_eq_nil_of_le (by omega),List.drop_eq_nil_of_le (by omega)]
  simpa using Ev.now true
 |succ n ih=>
  intro i hi hn;have ih:=ih (i+1) (by omega) (by omega);rw[show((i+1:Nat):Int)=wrap64 ((i:Int)+1)from by rw[lC (by omega) (by omega)];simp]at ih
  apply aX
  simp only[dr.l0];rw[aci a b i (by omega) (by omega)];refine bn (by omega) (bn (by omega) (bn (by omega) ?_))
  by_cases h:rd a i=rd b i
  ·refine bn h (eW ih ?_);simp[h]
  ·refine dv h (eW (Ev.now _) ?_);simp[h]
theorem wQ (a b:List Int) (hl:a.length≤9223372036854775807):Ev (fun k=>dr.f k a b) (decide (a=b)):=by
 unfold dr.f
 by_cases h:a.length=b.length
 ·have h1:=tZ a b h hl a.length 0 (by omega) (by omega);refine bn (by omega) ?_
  simpa using h1
 ·refine dv (by omega) (eW (Ev.now _) ?_)
  have:a≠b:=fun e=>h (by rw[e])
  simp[this]
end Go.Proofs.YtlecajlnjmbilaaGreatDoor.Q
namespace Go.Proofs.YtlecajlnjmbilaaGreatDoor.Q
open Go.RowKit Go.Proofs.ab.ao Go.Proofs.ab.aE Go.Proofs.ab.aI
theorem vo {α β:Type}(xs:List α) (f:α→β) (z:β) (i:Nat) (hi:i<xs.length):
  ((xs.take i).map f++List.replicate (xs.length-i) z).set i (f xs[i])=(xs.take (i+1)).map f++List.replicate (xs.length-(i+1)) z:=by
 rw[List.set_append,if_neg (by simp;omega)];obtain⟨m,hm⟩:∃m,xs.length-i=m+1:=⟨xs.length-i-1,by omega⟩;rw[hm,List.replicate_succ,show i-((xs.take i).map f).length=0 from by simp;omega,List.set_cons_zero,show xs.length-(i+1)=m from by omega,List.take_succ_eq_append_getElem hi,List.map_append,List.append_assoc]
 rfl
theorem t_ {α β:Type}(L:Nat→List β→Int→Option (List β)) (xs:List α) (f:α→β) (z:β)
  (h1:∀ys:List β,Ev (fun k=>L k ys (xs.length:Nat)) ys)
  (h2:∀(i:Nat) (hi:i<xs.length) (ys:List β),ys.length=xs.length→∀R,Ev (fun k=>L k (ys.set i (f xs[i])) ((i+1:Nat):Int)) R→Ev (fun k=>L k ys (i:Nat)) R):
  Ev (fun k=>L k (List.replicate xs.length z) 0) (xs.map f):=by
 have key:∀n i:Nat,xs.length-i=n→i≤xs.length→Ev (fun k=>L k ((xs.take i).map f++List.replicate (xs.length-i) z) (i:Nat)) (xs.map f):=by
  intro n
  induction n with
  |zero=>
   intro i hn hi
   obtain rfl:i=xs.length:=by omega
   simpa using h1 (xs.map f)
  |succ n ih=>
   intro i hn hi;refine h2 i (by omega) _ (by simp;omega) _ ?_;rw[vo xs f z i (by omega)];exact ih (i+1) (by omega) (by omega)
 simpa using key xs.length 0 (by omega) (by omega)
theorem ua {γ:Type}(L:Nat→Int→Option γ) (n:Nat) (R:γ) (h1:Ev (fun k=>L k (n:Nat)) R) (h2:∀i:Nat,i<n→Ev (fun k=>L k ((i+1:Nat):Int)) R→Ev (fun k=>L k (i:Nat)) R):Ev (fun k=>L k 0) R:=by
 have key:∀m i:Nat,n-i=m→i≤n→Ev (fun k=>L k (i:Nat)) R:=by
  intro m
  induction m with
  |zero=>
   intro i hm hi
   obtain rfl:i=n:=by omega
   exact h1
  |succ m ih=>
   intro i hm hi;exact h2 i (by omega) (ih (i+1) (by omega) (by omega))
 simpa using key n 0 (by omega) (by omega)
theorem xN {α γ:Type}(L:Nat→Int→Option γ) (xs:List α) (F:List α→γ) (h1:Ev (fun k=>L k (xs.length:Nat)) (F []))
  (h2:∀(i:Nat) (hi:i<xs.length),Ev (fun k=>L k ((i+1:Nat):Int)) (F (xs.drop (i+1)))→Ev (fun k=>L k (i:Nat)) (F (xs[i]::xs.drop (i+1)))):Ev (fun k=>L k 0) (F xs):=by
 have key:∀m i:Nat,xs.length-i=m→i≤xs.length→Ev (fun k=>L k (i:Nat)) (F (xs.drop i)):=by
  intro m
  induction m with
  |zero=>
   intro i hm hi
   obtain rfl:i=xs.length:=by omega
   rw[List.drop_length];exact h1
  |succ m ih=>
   intro i hm hi;rw[List.drop_eq_getElem_cons (by omega)];exact h2 i (by omega) (ih (i+1) (by omega) (by omega))
 simpa using key xs.length 0 (by omega) (by omega)
theorem getD_at {α:Type}(xs:List α) (z:α) (i:Nat) (hi:i<xs.length):xs.getD ((i:Nat):Int).toNat z=xs[i]:=by
 simp[List.getD_eq_getElem?_getD,List.getElem?_eq_getElem hi]
theorem rV {γ:Type}(L:Nat→Int→Int→Option γ) (n:Nat) (I:Nat→Int→Prop) (Z:γ→Prop) (h1:∀a,I n a→∃R,Ev (fun k=>L k a (n:Nat)) R∧Z R)
  (h2:∀(i:Nat) (a:Int),i<n→I i a→(∃R,Ev (fun k=>L k a (i:Nat)) R∧Z R)∨∃b,I (i+1) b∧∀R,Ev (fun k=>L k b ((i+1:Nat):Int)) R→Ev (fun k=>L k a (i:Nat)) R) (a:Int) (ha:I 0 a):∃R,Ev (fun k=>L k a 0) R∧Z R:=by
 have key:∀m i:Nat,n-i=m→i≤n→∀a,I i a→∃R,Ev (fun k=>L k a (i:Nat)) R∧Z R:=by
  intro m
  induction m with
  |zero=>
   intro i hm hi a ha
   obtain rfl:i=n:=by omega
   exact h1 a ha
  |succ m ih=>
   intro i hm hi a ha;rcases h2 i a (by omega) ha with h|⟨b,hb,h⟩
   ·exact h
   ·obtain⟨R,hR,hZ⟩:=ih (i+1) (by omega) (by omega) b hb;exact⟨R,h R hR,hZ⟩
 simpa using key n 0 (by omega) (by omega) a ha
end Go.Proofs.YtlecajlnjmbilaaGreatDoor.Q
namespace Go.Proofs.YtlecajlnjmbilaaGreatDoor.Q
open Go.RowKit Go.Proofs.YtlecajlnjmbilaaGreatDoor.P Go.Proofs.ab.ao Go.Proofs.ab.aE Go.Proofs.ab.aI
def marks (n:Nat) (k:Int):List Int:=(List.range n).map fun(i:Nat)=>(k+(i:Int))%256
theorem gn (n:Nat) (k:Int):(marks n k).length=n:=by simp[marks]
theorem abi (n:Nat) (k:Int) (i:Nat) (h:i<n):rd (marks n k) i=(k+i)%256:=by
 simp[Go.Proofs.ab.ao.rd,marks,h]
theorem abj (xs:List Int) (k:Int) (i:Nat) (h:i<xs.length):(marks i k++xs.drop i).set i ((k+i)%256)=marks (i+1) k++xs.drop (i+1):=by
 rw[List.set_append,if_neg (by rw[gn];omega),gn,Nat.sub_self,List.drop_eq_getElem_cons h,List.set_cons_zero];simp[marks,List.range_succ]
theorem yA (xs:List Int) (k0:Int) (hk:0≤k0) (hk1:k0+xs.length≤9223372036854775807) (n:Nat):∀(i:Nat),i≤xs.length→xs.length-i=n→
  Ev (fun k=>cY.l0 k (marks i k0++xs.drop i) (k0+i) i) (k0+xs.length,marks xs.length k0):=by
 induction n with
 |zero=>
  intro i hi hn
  apply aX
  simp only[cY.l0]
  obtain rfl:i=xs.length:=by omega
  refine dv (by simp[gn]) (eW (Ev.now _) ?_);simp
 |succ n ih=>
  intro i hi hn;have ih:=ih (i+1) (by omega) (by omega);rw[show((i+1:Nat):Int)=(i:Int)+1 from by omega]at ih
  apply aX
  simp only[cY.l0];refine bn (by simp[gn];omega) (bn (by omega) ?_);rw[Int.toNat_natCast,abj xs k0 i (by omega),lC (n:=k0+(i:Int)+1) (by omega) (by omega),lC (n:=(i:Int)+1) (by omega) (by omega),Int.add_assoc];exact ih
theorem ub (xs:List Int) (k0:Int) (hk:0≤k0) (hk1:k0+xs.length≤9223372036854775807):Ev (fun k=>cY.f k xs k0) (k0+xs.length,marks xs.length k0):=by
 have h:=yA xs k0 hk hk1 xs.length 0 (by omega) (by omega)
 simpa [cY.f,marks]using h
theorem yB (m:Nat) (k0:Int) (hk:0≤k0) (hk1:k0+m≤9223372036854775807) (n:Nat):∀(i:Nat),i≤m→m-i=n→
  Ev (fun k=>dq.l0 k (marks m k0) (k0+i) i) (k0+m):=by
 induction n with
 |zero=>
  intro i hi hn
  apply aX
  simp only[dq.l0]
  obtain rfl:i=m:=by omega
  exact dv (by simp[gn]) (Ev.now _)
 |succ n ih=>
  intro i hi hn;have ih:=ih (i+1) (by omega) (by omega);rw[show((i+1:Nat):Int)=(i:Int)+1 from by omega]at ih
  apply aX
  simp only[dq.l0];refine bn (by simp[gn];omega) (bn (by omega) (bn (abi m k0 i (by omega)) ?_));rw[lC (n:=k0+(i:Int)+1) (by omega) (by omega),lC (n:=(i:Int)+1) (by omega) (by omega),Int.add_assoc];exact ih
theorem uc (m:Nat) (k0:Int) (hk:0≤k0) (hk1:k0+m≤9223372036854775807):Ev (fun k=>dq.f k (marks m k0) k0) (k0+m):=by
 have h:=yB m k0 hk hk1 m 0 (by omega) (by omega)
 simpa [dq.f]using h
end Go.Proofs.YtlecajlnjmbilaaGreatDoor.Q
namespace Go.Proofs.YtlecajlnjmbilaaGreatDoor.Q
open Go.RowKit Go.Proofs.YtlecajlnjmbilaaGreatDoor.P Go.Proofs.ab.ao Go.Proofs.ab.aE Go.Proofs.ab.aI
def acj (x:kz):db:=⟨x.f0,x.f1⟩
def xO (x:kA):ey:=⟨x.f0,x.f1⟩
theorem nn (i:Nat) (n:Nat) (hi:i<n) (hn:n≤9223372036854775807):wrap64 ((i:Int)+1)=((i+1:Nat):Int):=by
 rw[lC (by omega) (by omega)];omega
theorem yC (l:List kz) (hl:l.length≤11728124029610):Ev (fun k=>ew.f k l) (l.map acj):=by
 unfold ew.f;refine bn (by omega) (bn (by omega) ?_);rw[Int.toNat_natCast];refine t_ (fun k ys i=>ew.l0 k l ys i) l acj _ (fun ys=> ?_) (fun i hi ys hy R h=> ?_)
 ·apply aX
  simp only[ew.l0];exact dv (by omega) (Ev.now _)
 ·apply aX
  simp only[ew.l0,lx.f,Option.bind_some];refine bn (by omega) (bn (by omega) (bn (by omega) ?_));rw[nn i l.length hi (by omega),Int.toNat_natCast];simp only[iE,getD_at l _ i hi];exact h
theorem wR (l:List kA) (hl:l.length≤8796093022208):Ev (fun k=>ee.f k l) (l.map xO):=by
 unfold ee.f;refine bn (by omega) (bn (by omega) ?_);rw[Int.toNat_natCast];refine t_ (fun k ys i=>ee.l0 k l ys i) l xO _ (fun ys=> ?_) (fun i hi ys hy R h=> ?_)
 ·apply aX
  simp only[ee.l0];exact dv (by omega) (Ev.now _)
 ·apply aX
  simp only[ee.l0,kV.f,Option.bind_some];refine bn (by omega) (bn (by omega) (bn (by omega) ?_));rw[nn i l.length hi (by omega),Int.toNat_natCast];simp only[iv,getD_at l _ i hi];exact h
theorem wS (a b c:Int) (d:List Int) (e:List kz) (t:List kA) (hd:d.length≤1048576) (he:e.length≤1048576) (ht:t.length≤1048576):
  Ev (fun k=>jq.f k a b c d e t) (a,b,c,d,e.map acj,t.map xO):=by
 unfold jq.f;exact Ev.bind (wP d (by omega)) (Ev.bind (yC e (by omega)) (Ev.bind (wR t (by omega)) (Ev.now _)))
theorem vp (l:List db) (hl:l.length≤9223372036854775807):Ev (fun k=>cD.f k l l) true:=by
 unfold cD.f;refine bn rfl (ua (fun k i=>cD.l0 k l l i) l.length true ?_ (fun i hi h=> ?_))
 ·apply aX
  simp only[cD.l0];exact dv (by omega) (Ev.now _)
 ·apply aX
  simp only[cD.l0,kU.f,if_true,Option.bind_some];refine bn (by omega) (bn (by omega) (bn (by omega) ?_));rw[nn i l.length hi hl];exact h
theorem ud (l:List ey) (hl:l.length≤9223372036854775807):Ev (fun k=>cv.f k l l) true:=by
 unfold cv.f;refine bn rfl (ua (fun k i=>cv.l0 k l l i) l.length true ?_ (fun i hi h=> ?_))
 ·apply aX
  simp only[cv.l0];exact dv (by omega) (Ev.now _)
 ·apply aX
  simp only[cv.l0,ki.f,if_true,Option.bind_some];refine bn (by omega) (bn (by omega) (bn (by omega) ?_));rw[nn i l.length hi hl];exact h
theorem ue (a b c:Int) (d:List Int) (e:List db) (t:List ey) (hd:d.length≤9223372036854775807) (he:e.length≤9223372036854775807) (ht:t.length≤9223372036854775807):
  Ev (fun k=>iO.f k a b c d e t a b c d e t) true:=by
 unfold iO.f;refine bn rfl (bn rfl (bn rfl (Ev.bind (wQ d d hd) (bn (by simp) (Ev.bind (vp e he) (bn rfl (Ev.bind (ud t ht) (bn rfl (Ev.now _)))))))))
theorem wT (d:List Int) (n:Int) (h0:0≤n) (h1:n≤1048576) (hd:d.length≤9223372036854775807):∃R,gj.f d n=some R∧(0≤R→R=n-d.length)∧R≤n:=by
 unfold gj.f;rw[lC (by omega) (by omega)]
 by_cases h:n-(d.length:Int)<0
 ·rw[if_pos h];exact⟨_,rfl,fun h=>by omega,by omega⟩
 ·rw[if_neg h];exact⟨_,rfl,fun _=>rfl,by omega⟩
def xP (l:List kz):Nat:=(l.map fun e=>e.f0.size).sum
def uf (l:List kA):Nat:=(l.map fun e=>e.f0.size+e.f1.size).sum
theorem rW {α:Type}(f:α→Nat) (l:List α) (i:Nat) (hi:i<l.length):((l.take (i+1)).map f).sum=((l.take i).map f).sum+f l[i]:=by
 rw[List.take_succ_eq_append_getElem hi,List.map_append,List.sum_append];simp
theorem yD (l:List kz) (n:Int) (h0:0≤n) (h1:n≤1048576) (hl:l.length≤9223372036854775807) (hg:∀e∈l,e.f0.size≤9223372036854775807):
  ∃R,Ev (fun k=>ep.f k l n) R∧(0≤R→R=n-l.length-xP l)∧R≤n:=by
 unfold ep.f;rw[lC (by omega) (by omega)]
 by_cases h:n-(l.length:Int)<0
 ·exact⟨-1,bn h (Ev.now _),fun h=>by omega,by omega⟩
 ·obtain⟨R,hR,hZ⟩:=rV (fun k a i=>ep.l0 k l a i) l.length (fun i a=>0≤a∧a=n-l.length-((l.take i).map fun e=>e.f0.size).sum) (fun R=>(0≤R→R=n-l.length-xP l)∧R≤n)
   (fun a ha=>⟨a,by
    apply aX
    simp only[ep.l0]
    exact dv (by omega) (Ev.now _),fun _=>by rw[ha.2,List.take_length];rfl,by omega⟩)
   (fun i a hi ha=>by
    have hm:=hg l[i] (List.getElem_mem hi);have hs:=rW (fun e:kz=>e.f0.size) l i hi
    by_cases hlt:a-(l[i].f0.size:Int)<0
    ·refine .inl ⟨-1,?_,fun h=>by omega,by omega⟩
     apply aX
     simp only[ep.l0,kj.f,iE,getD_at l _ i hi];rw[lC (n:=a-(l[i].f0.size:Int)) (by omega) (by omega),if_pos hlt];simp only[Option.bind_some];exact bn (by omega) (bn (by omega) (bn (by omega) (Ev.now _)))
    ·refine .inr ⟨a-(l[i].f0.size:Int),⟨by omega,by rw[hs];omega⟩,fun R h=> ?_⟩
     apply aX
     simp only[ep.l0,kj.f,iE,getD_at l _ i hi];rw[lC (n:=a-(l[i].f0.size:Int)) (by omega) (by omega),if_neg hlt];simp only[Option.bind_some];refine bn (by omega) (bn (by omega) (dv (by omega) ?_));rw[nn i l.length hi hl]
     exact h) (n-l.length) ⟨by omega,by simp⟩
  exact⟨R,dv h hR,hZ⟩
theorem wU (l:List kA) (n:Int) (h0:0≤n) (h1:n≤1048576) (hl:l.length≤9223372036854775807) (hg:∀e∈l,e.f0.size≤9223372036854775807∧e.f1.size≤9223372036854775807):
  ∃R,Ev (fun k=>dt.f k l n) R∧(0≤R→R=n-l.length-uf l)∧R≤n:=by
 unfold dt.f;rw[lC (by omega) (by omega)]
 by_cases h:n-(l.length:Int)<0
 ·exact⟨-1,bn h (Ev.now _),fun h=>by omega,by omega⟩
 ·obtain⟨R,hR,hZ⟩:=rV (fun k a i=>dt.l0 k l a i) l.length (fun i a=>0≤a∧a=n-l.length-((l.take i).map fun e=>e.f0.size+e.f1.size).sum) (fun R=>(0≤R→R=n-l.length-uf l)∧R≤n)
   (fun a ha=>⟨a,by
    apply aX
    simp only[dt.l0]
    exact dv (by omega) (Ev.now _),fun _=>by rw[ha.2,List.take_length];rfl,by omega⟩)
   (fun i a hi ha=>by
    have hm:=hg l[i] (List.getElem_mem hi);have hs:=rW (fun e:kA=>e.f0.size+e.f1.size) l i hi
    by_cases hlt:a-(l[i].f0.size:Int)<0
    ·refine .inl ⟨-1,?_,fun h=>by omega,by omega⟩
     apply aX
     simp only[dt.l0,iN.f,iv,getD_at l _ i hi];rw[lC (n:=a-(l[i].f0.size:Int)) (by omega) (by omega),if_pos hlt];simp only[Option.bind_some];exact bn (by omega) (bn (by omega) (bn (by omega) (Ev.now _)))
    ·by_cases hlt2:a-(l[i].f0.size:Int)-(l[i].f1.size:Int)<0
     ·refine .inl ⟨-1,?_,fun h=>by omega,by omega⟩
      apply aX
      simp only[dt.l0,iN.f,iv,getD_at l _ i hi];rw[lC (n:=a-(l[i].f0.size:Int)) (by omega) (by omega),if_neg hlt,lC (n:=a-(l[i].f0.size:Int)-(l[i].f1.size:Int)) (by omega) (by omega),if_pos hlt2];simp only[Option.bind_some];exact bn (by omega) (bn (by omega) (bn (by omega) (Ev.now _)))
     ·refine .inr ⟨a-(l[i].f0.size:Int)-(l[i].f1.size:Int),⟨by omega,by rw[hs];omega⟩,fun R h=> ?_⟩
      apply aX
      simp only[dt.l0,iN.f,iv,getD_at l _ i hi];rw[lC (n:=a-(l[i].f0.size:Int)) (by omega) (by omega),if_neg hlt,lC (n:=a-(l[i].f0.size:Int)-(l[i].f1.size:Int)) (by omega) (by omega),if_neg hlt2];simp only[Option.bind_some];refine bn (by omega) (bn (by omega) (dv (by omega) ?_));rw[nn i l.length hi hl]
      exact h) (n-l.length) ⟨by omega,by simp⟩
  exact⟨R,dv h hR,hZ⟩
def pS (d:List Int) (e:List kz) (t:List kA):Nat:=d.length+e.length+xP e+t.length+uf t
theorem wV (a b c:Int) (d:List Int) (e:List kz) (t:List kA) (n:Int) (h0:0≤n) (h1:n≤1048576) (hd:d.length≤9223372036854775807) (he:e.length≤9223372036854775807) (ht:t.length≤9223372036854775807)
  (ge:∀x∈e,x.f0.size≤9223372036854775807) (gt:∀x∈t,x.f0.size≤9223372036854775807∧x.f1.size≤9223372036854775807):
  ∃R,Ev (fun k=>iP.f k a b c d e t n) R∧(0≤R→R=n-pS d e t)∧R≤n:=by
 unfold iP.f;obtain⟨R1,e1,z1,l1⟩:=wT d n h0 h1 hd;simp only[e1,Option.bind_some]
 by_cases c1:R1<0
 ·exact⟨-1,bn c1 (Ev.now _),fun h=>by omega,by omega⟩
 obtain⟨R2,e2,z2,l2⟩:=yD e R1 (by omega) (by omega) he ge
 by_cases c2:R2<0
 ·exact⟨-1,dv c1 (Ev.bind e2 (bn c2 (Ev.now _))),fun h=>by omega,by omega⟩
 obtain⟨R3,e3,z3,l3⟩:=wU t R2 (by omega) (by omega) ht gt
 by_cases c3:R3<0
 ·exact⟨-1,dv c1 (Ev.bind e2 (dv c2 (Ev.bind e3 (bn c3 (Ev.now _))))),fun h=>by omega,by omega⟩
 ·refine⟨R3,dv c1 (Ev.bind e2 (dv c2 (Ev.bind e3 (dv c3 (Ev.now _))))),fun h=> ?_,by omega⟩;have:=z1 (by omega);have:=z2 (by omega);have:=z3 (by omega);unfold pS
  omega
end Go.Proofs.YtlecajlnjmbilaaGreatDoor.Q
namespace Go.Proofs.YtlecajlnjmbilaaGreatDoor.Q
open Go.RowKit Go.Proofs.YtlecajlnjmbilaaGreatDoor.P Go.Proofs.ab.ao Go.Proofs.ab.aE Go.Proofs.ab.aI
theorem down {n:Nat}{P:Nat→Prop}(h1:P n) (h2:∀i,i<n→P (i+1)→P i):P 0:=by
 have key:∀m i:Nat,n-i=m→i≤n→P i:=by
  intro m
  induction m with
  |zero=>
   intro i hm hi
   obtain rfl:i=n:=by omega
   exact h1
  |succ m ih=>intro i hm hi;exact h2 i (by omega) (ih (i+1) (by omega) (by omega))
 exact key n 0 (by omega) (by omega)
def kp (x:nq):aZ:=⟨x.f0,x.f1,x.f2,x.f3,x.f4.map acj,x.f5.map xO⟩
def adA (x:nq):Prop:=x.f3.length≤1048576∧x.f4.length≤1048576∧x.f5.length≤1048576
theorem vq (l:List nq) (hl:l.length≤1048576) (hb:∀x∈l,adA x):Ev (fun k=>dg.f k l) (l.map kp):=by
 unfold dg.f;refine bn (by omega) (bn (by omega) ?_);rw[Int.toNat_natCast];refine t_ (fun k ys i=>dg.l0 k l ys i) l kp _ (fun ys=> ?_) (fun i hi ys hy R h=> ?_)
 ·apply aX
  simp only[dg.l0];exact dv (by omega) (Ev.now _)
 ·have hB:=hb l[i] (List.getElem_mem hi);have ht:=wS l[i].f0 l[i].f1 l[i].f2 l[i].f3 l[i].f4 l[i].f5 hB.1 hB.2.1 hB.2.2
  apply aX
  simp only[dg.l0,cG,getD_at l _ i hi];refine bn (by omega) (bn (by omega) (Ev.bind ht (bn (by omega) ?_)));rw[nn i l.length hi (by omega),Int.toNat_natCast];exact h
theorem abb (l:List nq) (n:Int) (hl:l.length≤1048576) (hb:∀x∈l,adA x):Ev (fun k=>iS.f k l n) (l.map kp,n):=by
 unfold iS.f;exact Ev.bind (vq l hl hb) (Ev.now _)
theorem sH (l:List aZ) (hl:l.length≤9223372036854775807) (hb:∀x∈l,x.f3.length≤9223372036854775807∧x.f4.length≤9223372036854775807∧x.f5.length≤9223372036854775807):Ev (fun k=>ca.f k l l) true:=by
 unfold ca.f;refine bn rfl ?_;refine ua (fun k i=>ca.l0 k l l i) l.length true ?_ (fun i hi h=> ?_)
 ·apply aX
  simp only[ca.l0];exact dv (by omega) (Ev.now _)
 ·have hB:=hb l[i] (List.getElem_mem hi)
  apply aX
  simp only[ca.l0,af,getD_at l _ i hi];refine bn (by omega) (bn (by omega) (bn (by omega) (Ev.bind (ue _ _ _ _ _ _ hB.1 hB.2.1 hB.2.2) (bn rfl ?_))));rw[nn i l.length hi hl];exact h
theorem rX (l:List aZ) (n:Int) (hl:l.length≤9223372036854775807) (hb:∀x∈l,x.f3.length≤9223372036854775807∧x.f4.length≤9223372036854775807∧x.f5.length≤9223372036854775807):Ev (fun k=>f_.f k l n l n) true:=by
 unfold f_.f;exact Ev.bind (sH l hl hb) (bn rfl (bn rfl (Ev.now _)))
def adB (x:nq):Prop:=x.f3.length≤9223372036854775807∧x.f4.length≤9223372036854775807∧x.f5.length≤9223372036854775807∧(∀e∈x.f4,e.f0.size≤9223372036854775807)∧(∀e∈x.f5,e.f0.size≤9223372036854775807∧e.f1.size≤9223372036854775807)
def pT (x:nq):Nat:=pS x.f3 x.f4 x.f5
def qE (l:List nq):Nat:=l.length+(l.map pT).sum
theorem vr (l:List nq) (n:Int) (h0:0≤n) (h1:n≤1048576) (hl:l.length≤9223372036854775807) (hg:∀x∈l,adB x):
  ∃R,Ev (fun k=>df.f k l n) R∧(0≤R→R=n-qE l)∧R≤n:=by
 unfold df.f;rw[lC (by omega) (by omega)]
 by_cases h:n-(l.length:Int)<0
 ·exact⟨-1,bn h (Ev.now _),fun h=>by omega,by omega⟩
 ·obtain⟨R,hR,hZ⟩:=rV (fun k a i=>df.l0 k l a i) l.length (fun i a=>0≤a∧a≤n∧a=n-l.length-((l.take i).map pT).sum) (fun R=>(0≤R→R=n-qE l)∧R≤n)
   (fun a ha=>⟨a,by
    apply aX
    simp only[df.l0]
    exact dv (by omega) (Ev.now _),fun _=>by rw[ha.2.2,List.take_length];unfold qE;omega,by omega⟩)
   (fun i a hi ha=>by
    obtain⟨m1,m2,m3,m4,m5⟩:=hg l[i] (List.getElem_mem hi);have hs:=rW pT l i hi;obtain⟨R1,e1,z1,l1⟩:=wV l[i].f0 l[i].f1 l[i].f2 l[i].f3 l[i].f4 l[i].f5 a ha.1 (by omega) m1 m2 m3 m4 m5
    by_cases hlt:R1<0
    ·refine .inl ⟨-1,?_,fun h=>by omega,by omega⟩
     apply aX
     simp only[df.l0,cG,getD_at l _ i hi];exact bn (by omega) (bn (by omega) (Ev.bind e1 (bn hlt (Ev.now _))))
    ·have z1:=z1 (by omega);refine .inr ⟨R1,⟨by omega,by omega,by rw[hs];unfold pT at*;omega⟩,fun R h=> ?_⟩
     apply aX
     simp only[df.l0,cG,getD_at l _ i hi];refine bn (by omega) (bn (by omega) (Ev.bind e1 (dv hlt ?_)));rw[nn i l.length hi hl]
     exact h) (n-l.length) ⟨by omega,by omega,by simp⟩
  exact⟨R,dv h hR,hZ⟩
theorem aa_ (l:List nq) (nx n:Int) (h0:0≤n) (h1:n≤1048576) (hl:l.length≤9223372036854775807) (hg:∀x∈l,adB x):
  ∃R,Ev (fun k=>kc.f k l nx n) R∧(0≤R→R=n-qE l)∧R≤n:=by
 obtain⟨R,e,z,h⟩:=vr l n h0 h1 hl hg;unfold kc.f
 by_cases c:R<0
 ·exact⟨-1,Ev.bind e (bn c (Ev.now _)),fun h=>by omega,by omega⟩
 ·exact⟨R,Ev.bind e (dv c (Ev.now _)),z,h⟩
theorem pz {α:Type}(f:α→Nat) (l:List α) (x:α) (h:x∈l):f x≤(l.map f).sum:=by
 induction l with
 |nil=>cases h
 |cons y l ih=>
  rw[List.map_cons,List.sum_cons];rcases List.mem_cons.1 h with rfl|h
  ·omega
  ·have:=ih h;omega
structure ack (x:nq):Prop where
 d:x.f3.length≤1048576
 e:x.f4.length≤1048576
 t:x.f5.length≤1048576
 en:∀y∈x.f4,y.f0.size≤1048576
 tn:∀y∈x.f5,y.f0.size≤1048576∧y.f1.size≤1048576
theorem acm (x:nq) (h:pT x≤1048576):ack x:=by
 unfold pT pS at h;refine⟨by omega,by omega,by omega,fun y hy=> ?_,fun y hy=> ?_⟩
 ·have:=pz (fun e:kz=>e.f0.size) x.f4 y hy;unfold xP at h
  omega
 ·have:=pz (fun e:kA=>e.f0.size+e.f1.size) x.f5 y hy;unfold uf at h
  omega
theorem yx (l:List nq) (h:qE l≤1048576):l.length≤1048576∧∀x∈l,ack x:=by
 unfold qE at h;refine⟨by omega,fun x hx=>acm x ?_⟩;have:=pz pT l x hx
 omega
end Go.Proofs.YtlecajlnjmbilaaGreatDoor.Q
namespace Go.Proofs.YtlecajlnjmbilaaGreatDoor.Q
open Go.RowKit Go.Proofs.YtlecajlnjmbilaaGreatDoor.P Go.Proofs.YtlecajlnjmbilaaGreatDoor.Kinds Go.Proofs.ab.ao Go.Proofs.ab.aE Go.Proofs.ab.aI
theorem aba (l:List nq) (h:∀x∈l,g92 x):∀x∈l,adB x:=by
 intro x hx;obtain⟨_,_,_,⟨hd,_⟩,⟨he,ge⟩,⟨ht,gt⟩⟩:=h x hx;have hM:maxLen=9223372036854775807:=rfl;simp only[hM]at*;exact⟨hd,he,ht,fun e h=>(ge e h).1,fun e h=>gt e h⟩
theorem acf (l:List nq) (h:∀x∈l,ack x):∀x∈l,adA x:=fun x hx=>⟨(h x hx).d,(h x hx).e,(h x hx).t⟩
end Go.Proofs.YtlecajlnjmbilaaGreatDoor.Q
namespace Go.Proofs.YtlecajlnjmbilaaGreatDoor.Q
open Go.RowKit Go.Proofs.YtlecajlnjmbilaaGreatDoor.P Go.Proofs.ab.ao Go.Proofs.ab.aE Go.Proofs.ab.aI
def aee (a b:ByteArray):Bool:=Op.bytesLess a.toList b.toList
def upTo (p:Option ByteArray) (s:ByteArray):Bool:=match p with|none=>true|some q=>aee q s
def nP:Option ByteArray→List db→Bool
 |_,[]=>true
 |p,e::l=>fR e.f0&&decide (2≤e.f1∧e.f1≤1000)&&upTo p e.f0&&nP (some e.f0) l
def nh:Option ByteArray→List ey→Bool
 |_,[]=>true
 |p,e::l=>fR e.f0&&decide (1≤e.f1.size∧e.f1.size≤16)&&upTo p e.f0&&nh (some e.f0) l
def jz (l:List db) (i:Nat):Option ByteArray:=if i=0 then none else some (al l ((i:Int)-1)).f0
def iR (l:List ey) (i:Nat):Option ByteArray:=if i=0 then none else some (aq l ((i:Int)-1)).f0
theorem pU (l:List db) (i:Nat) (h:i<l.length):jz l (i+1)=some l[i].f0:=by
 unfold jz;rw[if_neg (by omega),show(((i+1:Nat):Int)-1)=(i:Int)from by omega,al,getD_at l _ i h]
theorem pg (l:List ey) (i:Nat) (h:i<l.length):iR l (i+1)=some l[i].f0:=by
 unfold iR;rw[if_neg (by omega),show(((i+1:Nat):Int)-1)=(i:Int)from by omega,aq,getD_at l _ i h]
def qn (l:List db):Bool:=nP none l&&decide (l.length≤10)
def nF (l:List ey):Bool:=nh none l&&decide (l.length≤4)
theorem yE (l:List db) (hl:l.length≤1048576) (hn:∀e∈l,e.f0.size≤1048576):Ev (fun k=>eh.f k l) (qn l):=by
 have key:Ev (fun k=>eh.l0 k l (0:Nat)) (nP (jz l 0) (l.drop 0)&&decide (l.length≤10)):=by
  refine down (n:=l.length) (P:=fun i=>Ev (fun k=>eh.l0 k l (i:Nat)) (nP (jz l i) (l.drop i)&&decide (l.length≤10))) ?_ (fun i hi h=> ?_)
  ·rw[List.drop_length]
   apply aX
   simp only[eh.l0,nP];refine dv (by omega) (eW (Ev.now _) ?_);simp;omega
  ·rw[List.drop_eq_getElem_cons hi];rw[pU l i hi]at h
   apply aX
   simp only[eh.l0];refine bn (by omega) ?_;have hname:=lW l[i].f0 (by have:=hn _ (List.getElem_mem hi);omega);have hrd:al l (i:Int)=l[i]:=getD_at l _ i hi;rw[hrd,nn i l.length hi (by omega)];simp only[nP,oM,Option.bind_some];refine bn (by omega) (Ev.bind hname ?_)
   by_cases c1:fR l[i].f0=true
   ·refine bn c1 ?_
    by_cases c2:2≤l[i].f1∧l[i].f1≤1000
    ·refine bn (by simp[c2]) ?_
     by_cases c3:i=0
     ·subst c3;refine dv (by omega) (eW h ?_);simp[c1,c2,jz,upTo]
     ·rw[lC (n:=(i:Int)-1) (by omega) (by omega)]
      have hu:upTo (jz l i) l[i].f0=Op.bytesLess (al l ((i:Int)-1)).f0.toList l[i].f0.toList:=by unfold jz;rw[if_neg c3];rfl
      refine bn (by omega) (bn (by omega) (bn (by omega) ?_))
      by_cases c4:Op.bytesLess (al l ((i:Int)-1)).f0.toList l[i].f0.toList=true
      ·refine bn c4 (eW h ?_);simp[c1,c2,hu,c4]
      ·refine dv c4 (eW (Ev.now _) ?_);simp[hu,c4]
    ·refine dv (by simp;omega) (eW (Ev.now _) ?_);have:decide (2≤l[i].f1∧l[i].f1≤1000)=false:=decide_eq_false c2;simp[this]
   ·refine dv c1 (eW (Ev.now _) ?_);simp[c1]
 simpa [eh.f,qn,jz]using key
theorem wW (l:List ey) (hl:l.length≤1048576) (hn:∀e∈l,e.f0.size≤1048576):Ev (fun k=>du.f k l) (nF l):=by
 have key:Ev (fun k=>du.l0 k l (0:Nat)) (nh (iR l 0) (l.drop 0)&&decide (l.length≤4)):=by
  refine down (n:=l.length) (P:=fun i=>Ev (fun k=>du.l0 k l (i:Nat)) (nh (iR l i) (l.drop i)&&decide (l.length≤4))) ?_ (fun i hi h=> ?_)
  ·rw[List.drop_length]
   apply aX
   simp only[du.l0,nh];refine dv (by omega) (eW (Ev.now _) ?_);simp;omega
  ·rw[List.drop_eq_getElem_cons hi];rw[pg l i hi]at h
   apply aX
   simp only[du.l0];refine bn (by omega) ?_;have hname:=lW l[i].f0 (by have:=hn _ (List.getElem_mem hi);omega);have hrd:aq l (i:Int)=l[i]:=getD_at l _ i hi;rw[hrd,nn i l.length hi (by omega)];simp only[nh,oM,Option.bind_some];refine bn (by omega) (Ev.bind hname ?_)
   by_cases c1:fR l[i].f0=true
   ·refine bn c1 ?_
    by_cases c2:1≤l[i].f1.size∧l[i].f1.size≤16
    ·refine bn (by simp;omega) ?_
     by_cases c3:i=0
     ·subst c3;refine dv (by omega) (eW h ?_);simp[c1,c2,iR,upTo]
     ·rw[lC (n:=(i:Int)-1) (by omega) (by omega)]
      have hu:upTo (iR l i) l[i].f0=Op.bytesLess (aq l ((i:Int)-1)).f0.toList l[i].f0.toList:=by unfold iR;rw[if_neg c3];rfl
      refine bn (by omega) (bn (by omega) (bn (by omega) ?_))
      by_cases c4:Op.bytesLess (aq l ((i:Int)-1)).f0.toList l[i].f0.toList=true
      ·refine bn c4 (eW h ?_);simp[c1,c2,hu,c4]
      ·refine dv c4 (eW (Ev.now _) ?_);simp[hu,c4]
    ·refine dv (by simp;omega) (eW (Ev.now _) ?_);have:decide (1≤l[i].f1.size∧l[i].f1.size≤16)=false:=decide_eq_false c2;simp[this]
   ·refine dv c1 (eW (Ev.now _) ?_);simp[c1]
 simpa [du.f,nF,iR]using key
theorem pV (a b c:Int):bs.f a b c=some (decide (b≤a∧a≤c)):=by
 unfold bs.f
 by_cases h:a≥b
 ·rw[if_pos h];simp[show b≤a from h]
 ·rw[if_neg h];simp[show¬b≤a from h]
theorem wX (l:List ey) (hl:l.length≤1048576) (hn:∀e∈l,e.f0.size≤1048576):Ev (fun k=>cU.f k l) (nF l):=by
 have key:Ev (fun k=>cU.l0 k l l (l.length:Int) (0:Nat)) (nh (iR l 0) (l.drop 0)&&decide (l.length≤4)):=by
  refine down (n:=l.length) (P:=fun i=>Ev (fun k=>cU.l0 k l l (l.length:Int) (i:Nat)) (nh (iR l i) (l.drop i)&&decide (l.length≤4))) ?_ (fun i hi h=> ?_)
  ·rw[List.drop_length]
   apply aX
   simp only[cU.l0,nh];refine dv (by omega) (eW (Ev.now _) ?_);simp;omega
  ·rw[List.drop_eq_getElem_cons hi];rw[pg l i hi]at h
   apply aX
   simp only[cU.l0];refine bn (by omega) ?_;have hname:=qm l[i].f0 (by have:=hn _ (List.getElem_mem hi);omega);have hrd:aq l (i:Int)=l[i]:=getD_at l _ i hi;rw[hrd,nn i l.length hi (by omega)];simp only[nh,pV,Option.bind_some];refine bn (by omega) (bn (by omega) (Ev.bind hname ?_))
   by_cases c1:fR l[i].f0=true
   ·refine bn c1 ?_
    by_cases c2:1≤l[i].f1.size∧l[i].f1.size≤16
    ·refine bn (by simp;omega) ?_
     by_cases c3:i=0
     ·subst c3;refine dv (by omega) (eW h ?_);simp[c1,c2,iR,upTo]
     ·rw[lC (n:=(i:Int)-1) (by omega) (by omega)]
      have hu:upTo (iR l i) l[i].f0=Op.bytesLess (aq l ((i:Int)-1)).f0.toList l[i].f0.toList:=by unfold iR;rw[if_neg c3];rfl
      refine bn (by omega) (bn (by omega) (bn (by omega) ?_))
      by_cases c4:Op.bytesLess (aq l ((i:Int)-1)).f0.toList l[i].f0.toList=true
      ·refine bn c4 (eW h ?_);simp[c1,c2,hu,c4]
      ·refine dv c4 (eW (Ev.now _) ?_);simp[hu,c4]
    ·refine dv (by simp;omega) (eW (Ev.now _) ?_);have:decide (1≤l[i].f1.size∧l[i].f1.size≤16)=false:=decide_eq_false c2;simp[this]
   ·refine dv c1 (eW (Ev.now _) ?_);simp[c1]
 simpa [cU.f,nF,iR]using key
def kindOk (b c:Int) (d:List Int) (e:List db):Bool:=if b=1 then e.length==0 else if b=2 then d.length==0&&decide (c≤1)else false
def jb (a b c:Int) (d:List Int) (e:List db) (t:List ey):Bool:=
 decide (1≤a∧a≤1000)&&decide (0≤c∧c≤1000)&&((c==0)==(a==1))&&decide (d.length≤100)&&qn e&&nF t&&kindOk b c d e
theorem qo (b c:Int) (d:List Int) (e:List db):(if b=1 then(some ((e.length:Int)==0))else(if b=2 then(if(d.length:Int)=0 then(some (decide (c≤1)))else(some false))else(some false)))=some (kindOk b c d e):=by
 unfold kindOk
 have h1:((e.length:Int)==0)=(e.length==0):=by rw[Bool.eq_iff_iff];simp only[beq_iff_eq];omega
 by_cases hb:b=1
 ·rw[if_pos hb,if_pos hb,h1]
 ·rw[if_neg hb,if_neg hb]
  by_cases hb2:b=2
  ·rw[if_pos hb2,if_pos hb2]
   by_cases hd:d.length=0
   ·rw[if_pos (by omega)];simp[hd]
   ·rw[if_neg (by omega)];simp[hd]
  ·rw[if_neg hb2,if_neg hb2]
theorem qp (x y:Bool):(x !=y)= !(x==y):=rfl
theorem ug (a b c:Int) (d:List Int) (e:List db) (t:List ey) (he:e.length≤1048576) (ht:t.length≤1048576) (hen:∀x∈e,x.f0.size≤1048576) (htn:∀x∈t,x.f0.size≤1048576):
  Ev (fun k=>cI.f k a b c d e t) (jb a b c d e t):=by
 unfold cI.f;simp only[oM,Option.bind_some]
 have no:∀r:Bool,r=false→Ev (fun k=>cI.j0 k true a b c d e t) r:=by
  intro r hr
  try(apply aX;simp only[cI.j0,qo])
  exact bn (by simp) (eW (Ev.now _) hr.symm)
 by_cases c1:1≤a∧a≤1000
 ·refine bn (by simp[c1]) ?_
  by_cases c2:0≤c∧c≤1000
  ·refine bn (by simp[c2]) ?_
   by_cases c3:((c==0)==(a==1))=true
   ·refine dv (by rw[qp,c3];simp) ?_
    by_cases c4:d.length≤100
    ·refine dv (by omega) (Ev.bind (yE e he hen) ?_)
     by_cases c5:qn e=true
     ·refine bn c5 (Ev.bind (wW t ht htn) ?_)
      try(apply aX;simp only[cI.j0,qo])
      by_cases c6:nF t=true
      ·refine dv (by simp[c6]) ?_;refine eW (Ev.now _) ?_;unfold jb;simp only[c1,c2,c3,c4,c5,c6,and_self,decide_true,Bool.true_and]
      ·refine bn (by simp[c6]) (eW (Ev.now _) ?_);simp[jb,c6]
     ·exact dv c5 (no _ (by simp[jb,c5]))
    ·exact bn (by omega) (no _ (by simp[jb,c4]))
   ·refine bn (by rw[qp];simpa using c3) (no _ ?_);unfold jb;rw[Bool.not_eq_true]at c3;simp[c3]
  ·refine dv (by simp;omega) (no _ ?_);have:decide (0≤c∧c≤1000)=false:=decide_eq_false c2;simp[jb,this]
 ·refine dv (by simp;omega) (no _ ?_);have:decide (1≤a∧a≤1000)=false:=decide_eq_false c1;simp[jb,this]
theorem qS (a b c:Int) (d:List Int) (l:List db) (t:List ey) (hl:l.length≤1048576) (hn:∀x∈l,x.f0.size≤1048576):
  Ev (fun k=>bh.l0 k l (l.length:Int) 0 a b c d l t) (nP none l&&(decide (0≤c∧c≤1000)&&((c==0)==(a==1))&&kindOk b c d l)):=by
 generalize hE:(decide (0≤c∧c≤1000)&&((c==0)==(a==1))&&kindOk b c d l)=E
 have key:Ev (fun k=>bh.l0 k l (l.length:Int) (0:Nat) a b c d l t) (nP (jz l 0) (l.drop 0)&&E):=by
  refine down (n:=l.length) (P:=fun i=>Ev (fun k=>bh.l0 k l (l.length:Int) (i:Nat) a b c d l t) (nP (jz l i) (l.drop i)&&E)) ?_ (fun i hi h=> ?_)
  ·rw[List.drop_length]
   apply aX
   simp only[bh.l0,nP,pV,Option.bind_some];refine dv (by omega) ?_
   have fin:∀x:Bool,(x= !(((c==0)==(a==1))&&decide (0≤c∧c≤1000)))→Ev (fun k=>bh.j2 k x a b c d l t) (true&&E):=by
    intro x hx
    try(apply aX;simp only[bh.j2,qo])
    by_cases cx:x=true
    ·refine bn cx (eW (Ev.now _) ?_);rw[cx]at hx
     have:(((c==0)==(a==1))&&decide (0≤c∧c≤1000))=false:=by
      cases hz:(((c==0)==(a==1))&&decide (0≤c∧c≤1000))with
      |false=>rfl
      |true=>rw[hz]at hx;exact absurd hx (by decide)
     rw[←hE,Bool.and_comm (decide _),this];simp
    ·refine dv cx ?_;refine eW (Ev.now _) ?_
     have:(((c==0)==(a==1))&&decide (0≤c∧c≤1000))=true:=by cases hz:(((c==0)==(a==1))&&decide (0≤c∧c≤1000))<;>simp_all
     rw[←hE,Bool.and_comm (decide _),this];simp
   by_cases c2:0≤c∧c≤1000
   ·exact bn (by simp[c2]) (fin _ (by rw[qp];simp[c2]))
   ·exact dv (by simp;omega) (fin _ (by have:decide (0≤c∧c≤1000)=false:=decide_eq_false c2;simp[this]))
  ·rw[List.drop_eq_getElem_cons hi];rw[pU l i hi]at h
   apply aX
   simp only[bh.l0];refine bn (by omega) ?_;have hname:=qm l[i].f0 (by have:=hn _ (List.getElem_mem hi);omega);have hrd:al l (i:Int)=l[i]:=getD_at l _ i hi;rw[hrd,nn i l.length hi (by omega)];simp only[nP,pV,Option.bind_some];refine bn (by omega) (bn (by omega) (Ev.bind hname ?_))
   by_cases c1:fR l[i].f0=true
   ·refine bn c1 ?_
    by_cases c2:2≤l[i].f1∧l[i].f1≤1000
    ·refine bn (by simp[c2]) ?_
     by_cases c3:i=0
     ·subst c3;refine dv (by omega) (eW h ?_);simp[c1,c2,jz,upTo]
     ·rw[lC (n:=(i:Int)-1) (by omega) (by omega)]
      have hu:upTo (jz l i) l[i].f0=Op.bytesLess (al l ((i:Int)-1)).f0.toList l[i].f0.toList:=by unfold jz;rw[if_neg c3];rfl
      refine bn (by omega) (bn (by omega) (bn (by omega) ?_))
      by_cases c4:Op.bytesLess (al l ((i:Int)-1)).f0.toList l[i].f0.toList=true
      ·refine bn c4 (eW h ?_);simp[c1,c2,hu,c4]
      ·refine dv c4 (eW (Ev.now _) ?_);simp[hu,c4]
    ·refine dv (by simp;omega) (eW (Ev.now _) ?_);have:decide (2≤l[i].f1∧l[i].f1≤1000)=false:=decide_eq_false c2;simp[this]
   ·refine dv c1 (eW (Ev.now _) ?_);simp[c1]
 simpa [jz]using key
theorem uh (a b c:Int) (d:List Int) (e:List db) (t:List ey) (he:e.length≤1048576) (ht:t.length≤1048576) (hen:∀x∈e,x.f0.size≤1048576) (htn:∀x∈t,x.f0.size≤1048576):
  Ev (fun k=>bh.f k a b c d e t) (jb a b c d e t):=by
 unfold bh.f;simp only[pV,Option.bind_some]
 have no:∀r:Bool,r=false→Ev (fun k=>bh.j0 k true a b c d e t) r:=by
  intro r hr
  try(apply aX;simp only[bh.j0])
  exact bn (by simp) (eW (Ev.now _) hr.symm)
 by_cases c1:1≤a∧a≤1000
 ·refine bn (by simp[c1]) ?_
  by_cases c4:d.length≤100
  ·refine dv (by omega) ?_
   by_cases c5:e.length≤10
   ·refine dv (by omega) (Ev.bind (wX t ht htn) ?_)
    try(apply aX;simp only[bh.j0])
    by_cases c6:nF t=true
    ·refine dv (by simp[c6]) ?_;refine eW (qS a b c d e t he hen) ?_;unfold jb qn;simp only[c1,c4,c5,c6,and_self,decide_true,Bool.true_and,Bool.and_true]
     cases nP none e<;>cases decide (0≤c∧c≤1000)<;>cases ((c==0)==(a==1))<;>cases kindOk b c d e<;>rfl
    ·refine bn (by simp[c6]) (eW (Ev.now _) ?_);simp[jb,c6]
   ·exact bn (by omega) (no _ (by simp[jb,qn,c5]))
  ·exact bn (by omega) (no _ (by simp[jb,c4]))
 ·refine dv (by simp;omega) (no _ ?_);have:decide (1≤a∧a≤1000)=false:=decide_eq_false c1;simp[jb,this]
end Go.Proofs.YtlecajlnjmbilaaGreatDoor.Q
namespace Go.Proofs.YtlecajlnjmbilaaGreatDoor.Q
open Go.RowKit Go.Proofs.YtlecajlnjmbilaaGreatDoor.P Go.Proofs.ab.ao Go.Proofs.ab.aE Go.Proofs.ab.aI
def abk (x:aZ):Bool:=jb x.f0 x.f1 x.f2 x.f3 x.f4 x.f5
def above (p:Option Int) (n:Int):Bool:=match p with|none=>true|some q=>decide (q<n)
def lf (nx:Int):Option Int→List aZ→Bool
 |_,[]=>true
 |p,x::l=>abk x&&decide (x.f0<nx)&&above p x.f0&&lf nx (some x.f0) l
def ka (l:List aZ) (i:Nat):Option Int:=if i=0 then none else some (af l ((i:Int)-1)).f0
theorem pW (l:List aZ) (i:Nat) (h:i<l.length):ka l (i+1)=some l[i].f0:=by
 unfold ka;rw[if_neg (by omega),show(((i+1:Nat):Int)-1)=(i:Int)from by omega,af,getD_at l _ i h]
structure pA (x:aZ):Prop where
 d:x.f3.length≤1048576
 e:x.f4.length≤1048576
 t:x.f5.length≤1048576
 en:∀y∈x.f4,y.f0.size≤1048576
 tn:∀y∈x.f5,y.f0.size≤1048576
theorem abl (x:aZ) (h:abk x=true):1≤x.f0:=by
 unfold abk jb at h;simp only[Bool.and_eq_true,decide_eq_true_eq]at h
 omega
theorem wY (nx:Int) (l:List aZ):∀(q:Int) (i:Nat),1≤q→lf nx (some q) l=true→cC 1 l i= -1:=by
 induction l with
 |nil=>intros;rfl
 |cons x l ih=>
  intro q i hq h;simp only[lf,above,Bool.and_eq_true,decide_eq_true_eq]at h;rw[cC,if_neg (by omega)];exact ih x.f0 (i+1) (by omega) h.2
theorem wZ (nx:Int) (x:aZ) (l:List aZ) (h:lf nx none (x::l)=true):cC 1 (x::l) 0=if x.f0=1 then 0 else-1:=by
 simp only[lf,Bool.and_eq_true,decide_eq_true_eq]at h;rw[cC]
 split
 ·rfl
 ·exact wY nx l x.f0 1 (abl x h.1.1.1) h.2
def oq (l:List aZ):Bool:=decide ((af l 0).f0=1)&&((af l 0).f1==2)
theorem sI (l:List aZ) (nx:Int) (hl:l.length≤1048576) (hs:∀x∈l,pA x) (hp:0<l.length):
  Ev (fun k=>br.l0 k 0 l nx) (lf nx none l&&oq l):=by
 have key:Ev (fun k=>br.l0 k (0:Nat) l nx) (lf nx (ka l 0) (l.drop 0)&&oq l):=by
  refine down (n:=l.length) (P:=fun i=>Ev (fun k=>br.l0 k (i:Nat) l nx) (lf nx (ka l i) (l.drop i)&&oq l)) ?_ (fun i hi h=> ?_)
  ·rw[List.drop_length]
   apply aX
   simp only[br.l0,lf];refine dv (by omega) (bn (by omega) ?_)
   by_cases c:(af l 0).f0=1
   ·exact bn c (eW (Ev.now _) (by simp[oq,c]))
   ·exact dv c (eW (Ev.now _) (by simp[oq,c]))
  ·rw[List.drop_eq_getElem_cons hi];rw[pW l i hi]at h;have hT:=hs l[i] (List.getElem_mem hi);have ho:=ug l[i].f0 l[i].f1 l[i].f2 l[i].f3 l[i].f4 l[i].f5 hT.e hT.t hT.en hT.tn;have hrd:af l (i:Int)=l[i]:=getD_at l _ i hi
   apply aX
   simp only[br.l0,hrd];rw[nn i l.length hi (by omega)];refine bn (by omega) (bn (by omega) (Ev.bind ho ?_))
   by_cases c1:abk l[i]=true
   ·refine bn c1 ?_
    by_cases c2:l[i].f0<nx
    ·refine dv (by omega) ?_
     by_cases c3:i=0
     ·subst c3;refine dv (by omega) (eW h ?_);simp[lf,c1,c2,ka,above]
     ·rw[lC (n:=(i:Int)-1) (by omega) (by omega)];refine bn (by omega) (bn (by omega) (bn (by omega) ?_))
      have hu:above (ka l i) l[i].f0=decide ((af l ((i:Int)-1)).f0<l[i].f0):=by unfold ka;rw[if_neg c3];rfl
      by_cases c4:(af l ((i:Int)-1)).f0<l[i].f0
      ·refine dv (by omega) (eW h ?_);simp[lf,c1,c2,hu,c4]
      ·refine bn (by omega) (eW (Ev.now _) ?_);simp[lf,hu,c4]
    ·refine bn (by omega) (eW (Ev.now _) ?_);simp[lf,c2]
   ·refine dv c1 (eW (Ev.now _) ?_);simp[lf,c1]
 simpa [ka]using key
theorem sJ (l:List aZ) (nx:Int) (hl:l.length≤1048576) (hs:∀x∈l,pA x) (E:Bool) (hE:Ev (fun k=>(cO.f k l nx 1).bind fun bt=>(if bt.2.2.2.2.2.2=true then(some (bt.2.1==2))else(some false))) E):
  Ev (fun k=>bq.l0 k l (l.length:Int) 0 l nx) (lf nx none l&&E):=by
 have key:Ev (fun k=>bq.l0 k l (l.length:Int) (0:Nat) l nx) (lf nx (ka l 0) (l.drop 0)&&E):=by
  refine down (n:=l.length) (P:=fun i=>Ev (fun k=>bq.l0 k l (l.length:Int) (i:Nat) l nx) (lf nx (ka l i) (l.drop i)&&E)) ?_ (fun i hi h=> ?_)
  ·rw[List.drop_length]
   apply aX
   simp only[bq.l0,lf];exact dv (by omega) (eW hE (by simp))
  ·rw[List.drop_eq_getElem_cons hi];rw[pW l i hi]at h;have hT:=hs l[i] (List.getElem_mem hi);have ho:=uh l[i].f0 l[i].f1 l[i].f2 l[i].f3 l[i].f4 l[i].f5 hT.e hT.t hT.en hT.tn;have hrd:af l (i:Int)=l[i]:=getD_at l _ i hi
   apply aX
   simp only[bq.l0,hrd];rw[nn i l.length hi (by omega)];refine bn (by omega) (bn (by omega) (bn (by omega) (Ev.bind ho ?_)))
   by_cases c1:abk l[i]=true
   ·refine bn c1 ?_
    by_cases c2:l[i].f0<nx
    ·refine dv (by omega) ?_
     by_cases c3:i=0
     ·subst c3;refine dv (by omega) (eW h ?_);simp[lf,c1,c2,ka,above]
     ·rw[lC (n:=(i:Int)-1) (by omega) (by omega)];refine bn (by omega) (bn (by omega) (bn (by omega) ?_))
      have hu:above (ka l i) l[i].f0=decide ((af l ((i:Int)-1)).f0<l[i].f0):=by unfold ka;rw[if_neg c3];rfl
      by_cases c4:(af l ((i:Int)-1)).f0<l[i].f0
      ·refine dv (by omega) (eW h ?_);simp[lf,c1,c2,hu,c4]
      ·refine bn (by omega) (eW (Ev.now _) ?_);simp[lf,hu,c4]
    ·refine bn (by omega) (eW (Ev.now _) ?_);simp[lf,c2]
   ·refine dv c1 (eW (Ev.now _) ?_);simp[lf,c1]
 simpa [ka]using key
theorem w_ (x:aZ) (h:pA x):eE.f x.f0 x.f1 x.f2 x.f3 x.f4 x.f5=some (x.f0,x.f1,x.f2,x.f3,x.f4,x.f5):=by
 have hd:=h.d;have he:=h.e;have ht:=h.t
 have a:cy.f x.f3=some x.f3:=by unfold cy.f;simp;omega
 have b:cH.f x.f4=some x.f4:=by unfold cH.f;simp;omega
 have c:dd.f x.f5=some x.f5:=by unfold dd.f;simp;omega
 unfold eE.f;rw[a,Option.bind_some,b,Option.bind_some,c,Option.bind_some]
def ph (l:List aZ) (nx:Int):Bool:=decide (1≤l.length∧l.length≤30)&&decide (2≤nx∧nx≤1000)&&(lf nx none l&&oq l)
theorem ui (ino:Int) (l:List aZ):∀i:Nat,cC ino l i= -1∨((i:Int)≤cC ino l i∧cC ino l i<i+l.length):=by
 induction l with
 |nil=>intro i;exact .inl rfl
 |cons x l ih=>
  intro i;rw[cC]
  split
  ·right;simp only[List.length_cons];omega
  ·rcases ih (i+1)with h|h
   ·exact .inl h
   ·right;simp only[List.length_cons];omega
def atOk (l:List aZ):Bool:=if cC 1 l 0<0 then false else((af l (cC 1 l 0)).f1==2)
theorem at_one (l:List aZ) (nx:Int) (hl:l.length≤1048576) (hs:∀x∈l,pA x):
  Ev (fun k=>(cO.f k l nx 1).bind fun bt=>(if bt.2.2.2.2.2.2=true then(some (bt.2.1==2))else(some false))) (atOk l):=by
 unfold cO.f ez.f atOk;rw[if_pos (by omega)];simp only[Option.bind_some]
 by_cases c:cC 1 l 0<0
 ·simp only[if_pos c,Option.bind_some];exact Ev.now _
 ·simp only[if_neg c];have hr:=ui 1 l 0;obtain⟨n,hn⟩:∃n:Nat,cC 1 l 0=n:=⟨(cC 1 l 0).toNat,by omega⟩;rw[hn]at hr c⊢
  have hlt:n<l.length:=by omega
  have hrd:af l (n:Int)=l[n]:=getD_at l _ n hlt;simp only[hrd,w_ l[n] (hs _ (List.getElem_mem hlt)),Option.bind_some];rw[if_pos (by omega),if_pos (by omega)];simp only[Option.bind_some,if_true];exact Ev.now _
theorem acn (nx:Int) (l:List aZ) (hp:0<l.length):(lf nx none l&&atOk l)=(lf nx none l&&oq l):=by
 cases h:lf nx none l with
 |false=>rfl
 |true=>
  cases l with
  |nil=>simp at hp
  |cons x l=>
   have hh:=wZ nx x l h;simp only[Bool.true_and,atOk,oq,hh];have h0:af (x::l) 0=x:=rfl
   by_cases c:x.f0=1
   ·simp[c,h0]
   ·simp[c,h0]
theorem xa (l:List aZ) (nx:Int) (hl:l.length≤1048576) (hs:∀x∈l,pA x):Ev (fun k=>br.f k l nx) (ph l nx):=by
 unfold br.f ph;simp only[oM,Option.bind_some]
 have no:∀r:Bool,r=false→Ev (fun k=>br.j0 k true l nx) r:=by
  intro r hr
  apply aX
  simp only[br.j0];exact bn (by simp) (eW (Ev.now _) hr.symm)
 by_cases c1:1≤l.length∧l.length≤30
 ·refine bn (by simp;omega) ?_
  by_cases c2:2≤nx∧nx≤1000
  ·apply aX
   simp only[br.j0];refine dv (by simp[c2]) (eW (sI l nx hl hs (by omega)) ?_);simp[c1,c2]
  ·rw[show decide (2≤nx∧nx≤1000)=false from decide_eq_false c2];exact no _ (by simp)
 ·refine dv (by simp;omega) (no _ ?_);rw[show decide (1≤l.length∧l.length≤30)=false from decide_eq_false c1]
  rfl
theorem xb (l:List aZ) (nx:Int) (hl:l.length≤1048576) (hs:∀x∈l,pA x):Ev (fun k=>bq.f k l nx) (ph l nx):=by
 unfold bq.f ph;simp only[pV,Option.bind_some]
 have no:∀r:Bool,r=false→Ev (fun k=>bq.j0 k true l nx) r:=by
  intro r hr
  apply aX
  simp only[bq.j0];exact bn (by simp) (eW (Ev.now _) hr.symm)
 by_cases c1:l.length≤30
 ·refine dv (by omega) ?_
  by_cases c2:2≤nx∧nx≤1000
  ·apply aX
   simp only[bq.j0];refine dv (by simp[c2]) (eW (sJ l nx hl hs _ (at_one l nx hl hs)) ?_)
   by_cases c0:1≤l.length
   ·rw[acn nx l c0];simp[c0,c1,c2]
   ·obtain rfl:l=[]:=List.eq_nil_of_length_eq_zero (by omega);simp[lf,atOk,cC]
  ·rw[show decide (2≤nx∧nx≤1000)=false from decide_eq_false c2];exact no _ (by simp)
 ·refine bn (by omega) (no _ ?_);rw[show decide (1≤l.length∧l.length≤30)=false from decide_eq_false (by omega)]
  rfl
end Go.Proofs.YtlecajlnjmbilaaGreatDoor.Q
namespace Go.Proofs.YtlecajlnjmbilaaGreatDoor.Q
open Go.RowKit Go.Proofs.YtlecajlnjmbilaaGreatDoor.P Go.Proofs.ab.ao Go.Proofs.ab.aE Go.Proofs.ab.aI
def fK (n:Int) (e:List db):Nat:=(e.filter fun x=>decide (x.f1=n)).length
def hO (n:Int) (x:aZ):Nat:=if x.f1=2 then fK n x.f4 else 0
def eZ (n:Int) (l:List aZ):Nat:=(l.map (hO n)).sum
theorem pj (n:Int) (e:List db) (j:Nat) (hj:j<e.length):fK n (e.drop j)=(if e[j].f1=n then 1 else 0)+fK n (e.drop (j+1)):=by
 unfold fK;rw[List.drop_eq_getElem_cons hj,List.filter_cons]
 by_cases h:e[j].f1=n
 ·rw[if_pos (by simpa using h),if_pos h,List.length_cons];omega
 ·rw[if_neg (by simpa using h),if_neg h];omega
theorem pX (n:Int) (l:List aZ) (j:Nat) (hj:j<l.length):eZ n (l.drop j)=hO n l[j]+eZ n (l.drop (j+1)):=by
 unfold eZ;rw[List.drop_eq_getElem_cons hj,List.map_cons,List.sum_cons]
theorem xc (L:List aZ) (nx n:Int) (hl:L.length≤1048576) (hs:∀x∈L,x.f4.length≤1048576) (hu:eZ n L≤4611686018427387904):Ev (fun k=>bg.f k L nx n) (eZ n L:Int):=by
 have key:∀acc:Nat,acc+eZ n (L.drop 0)≤4611686018427387904→Ev (fun k=>bg.l0 k n (acc:Int) (0:Nat) L nx) ((acc+eZ n (L.drop 0):Nat):Int):=by
  refine down (n:=L.length) (P:=fun i=>∀acc:Nat,acc+eZ n (L.drop i)≤4611686018427387904→Ev (fun k=>bg.l0 k n (acc:Int) (i:Nat) L nx) ((acc+eZ n (L.drop i):Nat):Int)) ?_ (fun i hi ih=> ?_)
  ·intro acc _;rw[List.drop_length]
   apply aX
   simp only[bg.l0];exact dv (by omega) (eW (Ev.now _) (by simp[eZ]))
  ·intro acc hb;rw[pX n L i hi]at hb⊢;have hx:=hs _ (List.getElem_mem hi);have ih:=ih (acc+hO n L[i]) (by omega);rw[←nn i L.length hi (by omega)]at ih;have ih:Ev (fun k=>bg.l0 k n ((acc+hO n L[i]:Nat):Int) (wrap64 ((i:Int)+1)) L nx) ((acc+(hO n L[i]+eZ n (L.drop (i+1))):Nat):Int):=eW ih (by omega);generalize ((acc+(hO n L[i]+eZ n (L.drop (i+1))):Nat):Int)=R at ih⊢
   apply aX
   simp only[bg.l0];refine bn (by omega) ?_;have hrd:af L (i:Int)=L[i]:=getD_at L _ i hi
   have go:∀acc j,Ev (fun k=>bg.l0 k n acc (wrap64 ((i:Int)+1)) L nx) R→Ev (fun k=>bg.j2 k n acc i j false L nx) R:=by
    intro acc j h
    apply aX
    simp only[bg.j2];exact dv (by simp) h
   by_cases hk:L[i].f1=2
   ·unfold hO at ih hb;rw[if_pos hk]at ih hb
    have inner:∀acc:Nat,acc+fK n (L[i].f4.drop 0)≤4611686018427387904→Ev (fun k=>bg.l0 k n ((acc+fK n (L[i].f4.drop 0):Nat):Int) (wrap64 ((i:Int)+1)) L nx) R→Ev (fun k=>bg.l1 k n (acc:Int) i (0:Nat) L nx) R:=by
     refine down (n:=L[i].f4.length) (P:=fun j=>∀acc:Nat,acc+fK n (L[i].f4.drop j)≤4611686018427387904→Ev (fun k=>bg.l0 k n ((acc+fK n (L[i].f4.drop j):Nat):Int) (wrap64 ((i:Int)+1)) L nx) R→Ev (fun k=>bg.l1 k n (acc:Int) i (j:Nat) L nx) R) ?_ (fun j hj ihj=> ?_)
     ·intro acc _ h;rw[List.drop_length]at h
      apply aX
      simp only[bg.l1,hrd];exact bn (by omega) (bn (by omega) (dv (by omega) (go _ _ (by simpa [fK]using h))))
     ·intro acc hb h;rw[pj n _ j hj]at hb h
      apply aX
      simp only[bg.l1,hrd];refine bn (by omega) (bn (by omega) (bn (by omega) ?_))
      apply aX
      simp only[bg.j2,hrd];have hrj:al L[i].f4 (j:Int)=L[i].f4[j]:=getD_at L[i].f4 _ j hj;refine bn (by simp[hk]) (bn (by omega) (bn (by omega) (bn (by omega) (bn (by omega) ?_))));rw[hrj,nn j L[i].f4.length hj (by omega)]
      by_cases he:L[i].f4[j].f1=n
      ·rw[if_pos he]at hb h;refine bn he ?_;rw[lC (n:=(acc:Int)+1) (by omega) (by omega)];have:=ihj (acc+1) (by omega) (by rw[show acc+1+fK n (L[i].f4.drop (j+1))=acc+(1+fK n (L[i].f4.drop (j+1)))from by omega];exact h)
       simpa using this
      ·rw[if_neg he]at hb h;refine dv he (ihj acc (by omega) ?_)
       simpa using h
    exact inner acc (by simp only[List.drop_zero];omega) (by simpa using ih)
   ·unfold hO at ih;rw[if_neg hk]at ih
    apply aX
    simp only[bg.l1,hrd];refine bn (by omega) (bn (by omega) (wO (fun _=> ?_) (fun _=>go _ _ (by simpa using ih))));rw[show(L[i].f1==2)=false from by simp[hk]];exact go _ _ (by simpa using ih)
 have:=key 0 (by simpa using hu)
 simpa [bg.f]using this
theorem xd (L:List aZ) (nx n:Int) (hl:L.length≤1048576) (hs:∀x∈L,x.f4.length≤1048576) (hu:eZ n L≤4611686018427387904):Ev (fun k=>bz.f k L nx n) (eZ n L:Int):=by
 have key:∀acc:Nat,acc+eZ n (L.drop 0)≤4611686018427387904→Ev (fun k=>bz.l0 k n (acc:Int) L (L.length:Int) (0:Nat)) ((acc+eZ n (L.drop 0):Nat):Int):=by
  refine down (n:=L.length) (P:=fun i=>∀acc:Nat,acc+eZ n (L.drop i)≤4611686018427387904→Ev (fun k=>bz.l0 k n (acc:Int) L (L.length:Int) (i:Nat)) ((acc+eZ n (L.drop i):Nat):Int)) ?_ (fun i hi ih=> ?_)
  ·intro acc _;rw[List.drop_length]
   apply aX
   simp only[bz.l0];exact dv (by omega) (eW (Ev.now _) (by simp[eZ]))
  ·intro acc hb;rw[pX n L i hi]at hb⊢;have hx:=hs _ (List.getElem_mem hi);have ih:=ih (acc+hO n L[i]) (by omega);rw[←nn i L.length hi (by omega)]at ih;have ih:Ev (fun k=>bz.l0 k n ((acc+hO n L[i]:Nat):Int) L (L.length:Int) (wrap64 ((i:Int)+1))) ((acc+(hO n L[i]+eZ n (L.drop (i+1))):Nat):Int):=eW ih (by omega);generalize ((acc+(hO n L[i]+eZ n (L.drop (i+1))):Nat):Int)=R at ih⊢
   apply aX
   have hrd:af L (i:Int)=L[i]:=getD_at L _ i hi;simp only[bz.l0,hrd];refine bn (by omega) ?_;refine bn (by omega) (bn (by omega) ?_)
   by_cases hk:L[i].f1=2
   ·unfold hO at ih hb;rw[if_pos hk]at ih hb;refine bn hk ?_
    have inner:∀acc:Nat,acc+fK n (L[i].f4.drop 0)≤4611686018427387904→Ev (fun k=>bz.l0 k n ((acc+fK n (L[i].f4.drop 0):Nat):Int) L (L.length:Int) (wrap64 ((i:Int)+1))) R→Ev (fun k=>bz.l1 k n (acc:Int) L (L.length:Int) i L[i].f4 (L[i].f4.length:Int) (0:Nat)) R:=by
     refine down (n:=L[i].f4.length) (P:=fun j=>∀acc:Nat,acc+fK n (L[i].f4.drop j)≤4611686018427387904→Ev (fun k=>bz.l0 k n ((acc+fK n (L[i].f4.drop j):Nat):Int) L (L.length:Int) (wrap64 ((i:Int)+1))) R→Ev (fun k=>bz.l1 k n (acc:Int) L (L.length:Int) i L[i].f4 (L[i].f4.length:Int) (j:Nat)) R) ?_ (fun j hj ihj=> ?_)
     ·intro acc _ h;rw[List.drop_length]at h
      apply aX
      simp only[bz.l1];exact dv (by omega) (by simpa [fK]using h)
     ·intro acc hb h;rw[pj n _ j hj]at hb h
      apply aX
      simp only[bz.l1];have hrj:al L[i].f4 (j:Int)=L[i].f4[j]:=getD_at L[i].f4 _ j hj;refine bn (by omega) (bn (by omega) (bn (by omega) ?_));rw[hrj,nn j L[i].f4.length hj (by omega)]
      by_cases he:L[i].f4[j].f1=n
      ·rw[if_pos he]at hb h;refine bn he ?_;rw[lC (n:=(acc:Int)+1) (by omega) (by omega)];have:=ihj (acc+1) (by omega) (by rw[show acc+1+fK n (L[i].f4.drop (j+1))=acc+(1+fK n (L[i].f4.drop (j+1)))from by omega];exact h)
       simpa using this
      ·rw[if_neg he]at hb h;refine dv he (ihj acc (by omega) ?_)
       simpa using h
    exact inner acc (by simp only[List.drop_zero];omega) (by simpa using ih)
   ·unfold hO at ih;rw[if_neg hk]at ih;exact dv hk (by simpa using ih)
 have:=key 0 (by simpa using hu)
 simpa [bz.f]using this
end Go.Proofs.YtlecajlnjmbilaaGreatDoor.Q
namespace Go.Proofs.YtlecajlnjmbilaaGreatDoor.Q
open Go.RowKit Go.Proofs.YtlecajlnjmbilaaGreatDoor.P Go.Proofs.ab.ao Go.Proofs.ab.aE Go.Proofs.ab.aI
theorem vt (l:List Int):(strOfNums l).size=l.length:=by
 simp[strOfNums,ByteArray.size]
theorem xe (m:Nat):∀(n:Int) (s:ByteArray),0≤n→n≤9223372036854775807→n<10^m→s.size+m≤1000→∃r,Ev (fun k=>ba.l0 k n s) r:=by
 induction m with
 |zero=>
  intro n s h0 _ h1 hs;refine⟨(⟨#[109]⟩:ByteArray)++s,aX ?_⟩;simp only[ba.l0];exact dv (by omega) (bn (by omega) (Ev.now _))
 |succ m ih=>
  intro n s h0 hM h1 hs
  by_cases hn:n>0
  ·have hd:wrap64 (Int.tdiv n 10)=n/10:=by rw[Int.tdiv_eq_ediv_of_nonneg h0];exact lC (by omega) (by omega)
   obtain⟨r,hr⟩:=ih (n/10) ((strOfNums [wrap64 (48+Int.tmod n 10)%256])++s) (by omega) (by omega) (by rw[Int.pow_succ]at h1;omega) (by rw[ByteArray.size_append,vt];simp;omega);refine⟨r,aX ?_⟩;simp only[ba.l0,Option.bind_some,hd];exact bn hn (bn (by rw[vt];simp;omega) hr)
  ·refine⟨(⟨#[109]⟩:ByteArray)++s,aX ?_⟩;simp only[ba.l0];exact dv hn (bn (by omega) (Ev.now _))
theorem abm (n:Int) (h0:1≤n) (h1:n≤9223372036854775807):∃r,Ev (fun k=>ba.f k n) r:=by
 obtain⟨r,h⟩:=xe 19 n ⟨#[]⟩ (by omega) h1 (by omega) (by decide);exact⟨r,by unfold ba.f;exact dv (by omega) h⟩
theorem qF {α:Type}(y:List α) (i:Nat) (v:α) (h:i<y.length):(y.set i v).take (i+1)=y.take i++[v]:=by
 rw[List.take_succ_eq_append_getElem (by simpa using h),List.getElem_set_self,List.take_set_of_le (Nat.le_refl i)]
def td:Int→List db→Prop
 |_,[]=>True
 |a,x::l=>Ev (fun k=>ba.f k a) x.f0∧x.f1=a+1∧td (a+2) l
def te:Int→List ey→Prop
 |_,[]=>True
 |a,x::l=>Ev (fun k=>ba.f k a) x.f0∧Ev (fun k=>ba.f k (a+1)) x.f1∧te (a+2) l
theorem abn (l:List db):∀(a:Int) (i:Nat) (h:i<l.length),td a l→Ev (fun k=>ba.f k (a+2*i)) l[i].f0∧l[i].f1=a+2*i+1:=by
 induction l with
 |nil=>intro a i h;simp at h
 |cons x l ih=>
  intro a i h hh
  cases i with
  |zero=>exact⟨by simpa using hh.1,by simpa using hh.2.1⟩
  |succ i=>
   obtain⟨h1,h2⟩:=ih (a+2) i (by simpa using h) hh.2.2;rw[show a+2+2*(i:Int)=a+2*((i+1:Nat):Int)from by omega]at h1 h2;exact⟨h1,h2⟩
theorem abo (l:List ey):∀(a:Int) (i:Nat) (h:i<l.length),te a l→Ev (fun k=>ba.f k (a+2*i)) l[i].f0∧Ev (fun k=>ba.f k (a+2*i+1)) l[i].f1:=by
 induction l with
 |nil=>intro a i h;simp at h
 |cons x l ih=>
  intro a i h hh
  cases i with
  |zero=>exact⟨by simpa using hh.1,by simpa using hh.2.1⟩
  |succ i=>
   obtain⟨h1,h2⟩:=ih (a+2) i (by simpa using h) hh.2.2;rw[show a+2+2*(i:Int)=a+2*((i+1:Nat):Int)from by omega]at h1 h2;exact⟨h1,h2⟩
theorem abp (l:List db) (a:Int) (h0:1≤a) (h1:a+2*l.length≤4611686018427387904) (hh:td a l):Ev (fun k=>bw.f k l a) (a+2*l.length):=by
 have key:=down (n:=l.length) (P:=fun i=>Ev (fun k=>bw.l0 k l (a+2*i) (i:Nat)) (a+2*l.length)) (by
   apply aX
   simp only[bw.l0]
   exact dv (by omega) (Ev.now _)) (fun i hi h=>by
   obtain⟨g1,g2⟩:=abn l a i hi hh;have hrd:al l (i:Int)=l[i]:=getD_at l _ i hi
   apply aX
   simp only[bw.l0,hrd];rw[lC (n:=a+2*(i:Int)+1) (by omega) (by omega),lC (n:=a+2*(i:Int)+1+1) (by omega) (by omega),nn i l.length hi (by omega)];refine bn (by omega) (bn (by omega) (Ev.bind g1 (bn rfl (bn g2 ?_))));rw[show a+2*(i:Int)+1+1=a+2*((i+1:Nat):Int)from by omega]
   exact h)
 simpa [bw.f]using key
theorem yF (l:List ey) (a:Int) (h0:1≤a) (h1:a+2*l.length≤4611686018427387904) (hh:te a l):Ev (fun k=>aT.f k l a) (a+2*l.length):=by
 have key:=down (n:=l.length) (P:=fun i=>Ev (fun k=>aT.l0 k l (a+2*i) (i:Nat)) (a+2*l.length)) (by
   apply aX
   simp only[aT.l0]
   exact dv (by omega) (Ev.now _)) (fun i hi h=>by
   obtain⟨g1,g2⟩:=abo l a i hi hh;have hrd:aq l (i:Int)=l[i]:=getD_at l _ i hi
   apply aX
   simp only[aT.l0,hrd];rw[lC (n:=a+2*(i:Int)+1) (by omega) (by omega),lC (n:=a+2*(i:Int)+1+1) (by omega) (by omega),nn i l.length hi (by omega)];refine bn (by omega) (bn (by omega) (Ev.bind g1 (bn rfl (Ev.bind g2 (bn rfl ?_)))));rw[show a+2*(i:Int)+1+1=a+2*((i+1:Nat):Int)from by omega]
   exact h)
 simpa [aT.f]using key
theorem abq (l:List db) (x:Int) (h0:1≤x) (h1:x+2*l.length≤4611686018427387904):∃r,Ev (fun k=>de.f k l x) (x+2*l.length,r)∧r.length=l.length∧td x r:=by
 have key:=down (n:=l.length) (P:=fun i=>∀y:List db,y.length=l.length→∃r,Ev (fun k=>de.l0 k y (x+2*i) (i:Nat)) (x+2*l.length,y.take i++r)∧i+r.length=l.length∧td (x+2*i) r) (by
   intro y hy;refine⟨[],aX ?_,by simp,trivial⟩;simp only[de.l0];refine dv (by omega) (eW (Ev.now _) ?_)
   rw[←hy,List.take_length,List.append_nil]) (by
   intro i hi h y hy;obtain⟨s,hs⟩:=abm (x+2*i) (by omega) (by omega);obtain⟨r,hr,hl,hh⟩:=h (((y.set i (⟨s,(al y (i:Nat)).f1⟩:db)).set i (⟨(al (y.set i (⟨s,(al y (i:Nat)).f1⟩:db)) (i:Nat)).f0,x+2*i+1⟩:db))) (by simp[hy])
   have e0:(al (y.set i (⟨s,(al y (i:Nat)).f1⟩:db)) (i:Nat)).f0=s:=by rw[al,getD_at _ _ i (by simpa using(by omega:i<y.length)),List.getElem_set_self]
   have e1:=e0;refine⟨⟨s,x+2*i+1⟩::r,aX ?_,by simp;omega,hs,rfl,by rw[show x+2*(i:Int)+2=x+2*((i+1:Nat):Int)from by omega];exact hh⟩;simp only[de.l0,Option.bind_some];refine bn (by omega) (Ev.bind hs (bn (by omega) ?_));rw[lC (n:=x+2*(i:Int)+1) (by omega) (by omega),lC (n:=x+2*(i:Int)+1+1) (by omega) (by omega),nn i l.length hi (by omega),show x+2*(i:Int)+1+1=x+2*((i+1:Nat):Int)from by omega];refine eW hr ?_;rw[e1,qF _ _ _ (by simp;omega),List.take_set_of_le (Nat.le_refl i),List.append_assoc]
   rfl)
 obtain⟨r,hr,hl,hh⟩:=key l rfl;exact⟨r,by simpa [de.f]using hr,by omega,by simpa using hh⟩
theorem yG (l:List ey) (x:Int) (h0:1≤x) (h1:x+2*l.length≤4611686018427387904):∃r,Ev (fun k=>cP.f k l x) (x+2*l.length,r)∧r.length=l.length∧te x r:=by
 have key:=down (n:=l.length) (P:=fun i=>∀y:List ey,y.length=l.length→∃r,Ev (fun k=>cP.l0 k y (x+2*i) (i:Nat)) (x+2*l.length,y.take i++r)∧i+r.length=l.length∧te (x+2*i) r) (by
   intro y hy;refine⟨[],aX ?_,by simp,trivial⟩;simp only[cP.l0];refine dv (by omega) (eW (Ev.now _) ?_)
   rw[←hy,List.take_length,List.append_nil]) (by
   intro i hi h y hy;obtain⟨s,hs⟩:=abm (x+2*i) (by omega) (by omega);obtain⟨s2,hs2⟩:=abm (x+2*i+1) (by omega) (by omega);obtain⟨r,hr,hl,hh⟩:=h (((y.set i (⟨s,(aq y (i:Nat)).f1⟩:ey)).set i (⟨(aq (y.set i (⟨s,(aq y (i:Nat)).f1⟩:ey)) (i:Nat)).f0,s2⟩:ey))) (by simp[hy])
   have e1:(aq (y.set i (⟨s,(aq y (i:Nat)).f1⟩:ey)) (i:Nat)).f0=s:=by rw[aq,getD_at _ _ i (by simpa using(by omega:i<y.length)),List.getElem_set_self]
   refine⟨⟨s,s2⟩::r,aX ?_,by simp;omega,hs,hs2,by rw[show x+2*(i:Int)+2=x+2*((i+1:Nat):Int)from by omega];exact hh⟩;simp only[cP.l0,Option.bind_some];rw[lC (n:=x+2*(i:Int)+1) (by omega) (by omega),lC (n:=x+2*(i:Int)+1+1) (by omega) (by omega),nn i l.length hi (by omega),show x+2*(i:Int)+1+1=x+2*((i+1:Nat):Int)from by omega];refine bn (by omega) (Ev.bind hs (bn (by omega) (Ev.bind hs2 (eW hr ?_))));rw[e1,qF _ _ _ (by simp;omega),List.take_set_of_le (Nat.le_refl i),List.append_assoc]
   rfl)
 obtain⟨r,hr,hl,hh⟩:=key l rfl;exact⟨r,by simpa [cP.f]using hr,by omega,by simpa using hh⟩
def acD (a:Int) (d:List Int) (e:List db) (t:List ey):Prop:=d=marks d.length a∧td (a+d.length) e∧te (a+d.length+2*e.length) t
def inW (d:List Int) (e:List db) (t:List ey):Nat:=d.length+2*e.length+2*t.length
end Go.Proofs.YtlecajlnjmbilaaGreatDoor.Q
namespace Go.Proofs.YtlecajlnjmbilaaGreatDoor.Q
open Go.RowKit Go.Proofs.YtlecajlnjmbilaaGreatDoor.P Go.Proofs.ab.ao Go.Proofs.ab.aE Go.Proofs.ab.aI
def mj (x:aZ):Nat:=3+inW x.f3 x.f4 x.f5
def cQ (l:List aZ):Nat:=(l.map mj).sum
def tf:Int→List aZ→Prop
 |_,[]=>True
 |a,x::l=>(x.f0=a∧x.f1=a+1∧x.f2=a+2∧acD (a+3) x.f3 x.f4 x.f5)∧tf (a+mj x) l
theorem abr (l:List aZ):∀(x:Int),1≤x→x+cQ l≤4611686018427387904→∃r,Ev (fun k=>qw k l x) (x+cQ l,r)∧r.length=l.length∧cQ r=cQ l∧tf x r:=by
 induction l with
 |nil=>intro x _ _;exact⟨[],eW (Ev.now _) (by simp[cQ]),rfl,rfl,trivial⟩
 |cons y l ih=>
  intro x h0 h1
  have hw:cQ (y::l)=mj y+cQ l:=by simp[cQ]
  rw[hw]at h1⊢;obtain⟨r,hr,hl,hW,hh⟩:=ih (x+mj y) (by omega) (by omega);have hy:mj y=3+(y.f3.length+2*y.f4.length+2*y.f5.length):=rfl;have g1:=ub y.f3 (x+1+1+1) (by omega) (by omega);obtain⟨e',g2,l2,v2⟩:=abq y.f4 (x+1+1+1+y.f3.length) (by omega) (by omega);obtain⟨t',g3,l3,v3⟩:=yG y.f5 (x+1+1+1+y.f3.length+2*y.f4.length) (by omega) (by omega)
  have hz:mj ⟨x,x+1,x+1+1,marks y.f3.length (x+1+1+1),e',t'⟩=mj y:=by
   simp only[mj,inW,gn,l2,l3]
  refine⟨⟨x,x+1,x+1+1,marks y.f3.length (x+1+1+1),e',t'⟩::r,?_,by simp[hl],by simp only[cQ,List.map_cons,List.sum_cons,hz]at hW⊢;omega,⟨rfl,rfl,by dsimp only;omega,?_⟩,by rw[hz];exact hh⟩
  ·simp only[qw,tQ];rw[lC (n:=x+1) (by omega) (by omega),lC (n:=x+1+1) (by omega) (by omega),lC (n:=x+1+1+1) (by omega) (by omega)];refine Ev.bind (Ev.bind g1 (Ev.bind g2 (Ev.bind g3 (Ev.now _)))) ?_;rw[show x+1+1+1+(y.f3.length:Int)+2*y.f4.length+2*y.f5.length=x+mj y from by omega];refine Ev.bind hr (eW (Ev.now _) ?_);rw[show x+((mj y+cQ l:Nat):Int)=x+mj y+cQ l from by omega]
  ·rw[show x+1+1+1=x+3 from by omega]at v2 v3⊢;exact⟨by rw[gn],by rw[gn];exact v2,by rw[gn,l2];exact v3⟩
theorem tg (l:List aZ) (x:Int) (hl:l.length≤1048577) (h0:1≤x) (h1:x+cQ l≤4611686018427387904):∃r,Ev (fun k=>eB.f k l x) (x+cQ l,r)∧r.length=l.length∧cQ r=cQ l∧tf x r:=by
 obtain⟨r,hr,z⟩:=abr l x h0 h1;exact⟨r,by unfold eB.f;exact bn (by omega) hr,z⟩
theorem abt (l:List aZ) (x:Int) (hl:l.length≤1048576) (h0:1≤x) (h1:x+cQ l≤4611686018427387904):∃r,Ev (fun k=>eB.f k l x) (x+cQ l,r)∧r.length=l.length∧cQ r=cQ l∧tf x r:=tg l x (by omega) h0 h1
theorem abu (l:List aZ):∀(a:Int) (i:Nat) (h:i<l.length),tf a l→(l[i].f0=a+cQ (l.take i)∧l[i].f1=a+cQ (l.take i)+1∧l[i].f2=a+cQ (l.take i)+2∧acD (a+cQ (l.take i)+3) l[i].f3 l[i].f4 l[i].f5):=by
 induction l with
 |nil=>intro a i h;simp at h
 |cons x l ih=>
  intro a i h hh
  cases i with
  |zero=>simpa [cQ]using hh.1
  |succ i=>
   have:=ih (a+mj x) i (by simpa using h) hh.2;rw[show a+(mj x:Int)+cQ (l.take i)=a+cQ ((x::l).take (i+1))from by simp[cQ];omega]at this;exact this
theorem xf (l:List aZ) (i:Nat) (h:i<l.length):cQ (l.take (i+1))=cQ (l.take i)+mj l[i]:=by
 unfold cQ;rw[List.take_succ_eq_append_getElem h,List.map_append,List.sum_append];simp
theorem abv (l:List aZ) (i:Nat):cQ (l.take i)≤cQ l:=by
 have h:cQ l=cQ (l.take i)+cQ (l.drop i):=by unfold cQ;rw[←List.sum_append,←List.map_append,List.take_append_drop]
 omega
end Go.Proofs.YtlecajlnjmbilaaGreatDoor.Q
namespace Go.Proofs.YtlecajlnjmbilaaGreatDoor.Q
open Go.RowKit Go.Proofs.YtlecajlnjmbilaaGreatDoor.P Go.Proofs.ab.ao Go.Proofs.ab.aE Go.Proofs.ab.aI
theorem yH (l:List aZ) (nx x:Int) (hl:l.length≤1048577) (h0:1≤x) (h1:x+cQ l≤4611686018427387904) (hh:tf x l):Ev (fun k=>fm.f k l nx x) (x+cQ l):=by
 have key:=down (n:=l.length) (P:=fun i=>Ev (fun k=>aA.l0 k l (x+cQ (l.take i)) (i:Nat)) (x+cQ l)) (by
   apply aX
   simp only[aA.l0,List.take_length]
   exact dv (by omega) (Ev.now _)) (fun i hi h=>by
   obtain⟨g0,g1,g2,hd,he,ht⟩:=abu l x i hi hh;have hrd:af l (i:Int)=l[i]:=getD_at l _ i hi;have hw:=xf l i hi;have hle:=abv l (i+1);have hy:mj l[i]=3+(l[i].f3.length+2*l[i].f4.length+2*l[i].f5.length):=rfl;generalize hA:x+(cQ (l.take i):Int)=A at g0 g1 g2 hd he ht;have b1:=uc l[i].f3.length (A+3) (by omega) (by omega);rw[←hd]at b1;have b2:=abp l[i].f4 (A+3+l[i].f3.length) (by omega) (by omega) he;have b3:=yF l[i].f5 (A+3+l[i].f3.length+2*l[i].f4.length) (by omega) (by omega) ht
   apply aX
   simp only[aA.l0];refine bn (by omega) ?_
   apply aX
   simp only[aA.j1,hrd];refine bn (by omega) (bn (by omega) (bn g0 ?_))
   apply aX
   simp only[aA.j2,hrd];rw[lC (n:=A+1) (by omega) (by omega)];refine bn (by omega) (bn (by omega) (bn g1 ?_))
   apply aX
   simp only[aA.j3,hrd];rw[lC (n:=A+1+1) (by omega) (by omega)];refine bn (by omega) (bn (by omega) (bn (by omega) ?_))
   apply aX
   simp only[aA.j4,hrd];rw[lC (n:=A+1+1+1) (by omega) (by omega),show A+1+1+1=A+3 from by omega];refine bn (by omega) (bn (by omega) (Ev.bind b1 (dv (by omega) ?_)))
   apply aX
   simp only[aA.j5,hrd];refine bn (by omega) (bn (by omega) (Ev.bind b2 (dv (by omega) (Ev.bind b3 (dv (by omega) ?_)))));rw[nn i l.length hi (by omega)];rw[show A+3+(l[i].f3.length:Int)+2*l[i].f4.length+2*l[i].f5.length=x+cQ (l.take (i+1))from by omega]
   exact h)
 unfold fm.f aA.f;refine Ev.bind (a:=x+cQ l) ?_ (dv (by omega) (Ev.now _))
 simpa [cQ]using key
end Go.Proofs.YtlecajlnjmbilaaGreatDoor.Q
namespace Go.Proofs.YtlecajlnjmbilaaGreatDoor.Q
open Go.RowKit Go.Proofs.YtlecajlnjmbilaaGreatDoor.P Go.Proofs.ab.ao Go.Proofs.ab.aE Go.Proofs.ab.aI
structure gu (x:aZ):Prop where
 d:x.f3.length≤1048576
 e:x.f4.length≤1048576
 t:x.f5.length≤1048576
theorem rY (x:aZ) (h:gu x):eE.f x.f0 x.f1 x.f2 x.f3 x.f4 x.f5=some (x.f0,x.f1,x.f2,x.f3,x.f4,x.f5):=by
 have hd:=h.d;have he:=h.e;have ht:=h.t
 have a:cy.f x.f3=some x.f3:=by unfold cy.f;simp;omega
 have b:cH.f x.f4=some x.f4:=by unfold cH.f;simp;omega
 have c:dd.f x.f5=some x.f5:=by unfold dd.f;simp;omega
 unfold eE.f;rw[a,Option.bind_some,b,Option.bind_some,c,Option.bind_some]
end Go.Proofs.YtlecajlnjmbilaaGreatDoor.Q
namespace Go.Proofs.YtlecajlnjmbilaaGreatDoor.Q
open Go.RowKit Go.Proofs.YtlecajlnjmbilaaGreatDoor.P Go.Proofs.ab.ao Go.Proofs.ab.aE Go.Proofs.ab.aI
theorem oN (x:aZ) (h:gu x):cZ.f x.f0 x.f1 x.f2 x.f3 x.f4 x.f5=some (x.f0,x.f1,x.f2,x.f3,x.f4,x.f5):=by
 have hd:=h.d;have he:=h.e;have ht:=h.t;unfold cZ.f;simp only[Option.bind_some,List.length_nil,List.nil_append];rw[if_pos (by omega),if_pos (by omega),if_pos (by omega)]
end Go.Proofs.YtlecajlnjmbilaaGreatDoor.Q
namespace Go.Proofs.YtlecajlnjmbilaaGreatDoor.Q
open Go.RowKit Go.Proofs.YtlecajlnjmbilaaGreatDoor.P Go.Proofs.ab.ao Go.Proofs.ab.aE Go.Proofs.ab.aI
theorem abd (l:List nq):cQ (l.map kp)≤3*qE l:=by
 unfold cQ qE
 induction l with
 |nil=>simp
 |cons x l ih=>
  simp only[List.map_cons,List.sum_cons,List.length_cons]
  have:mj (kp x)≤3+3*pT x:=by
   unfold mj inW pT pS kp;simp only[List.length_map]
   omega
  omega
theorem uj (p:aZ→Bool) (l:List aZ):cQ (l.filter p)≤cQ l:=by
 unfold cQ
 induction l with
 |nil=>simp
 |cons x l ih=>
  rw[List.filter_cons]
  split
  ·simp only[List.map_cons,List.sum_cons];omega
  ·simp only[List.map_cons,List.sum_cons];omega
theorem rZ {l:List aZ}(h:∀x∈l,gu x):∀x∈l,x.f3.length≤9223372036854775807∧x.f4.length≤9223372036854775807∧x.f5.length≤9223372036854775807:=fun x hx=>by
 have a:=(h x hx).d;have b:=(h x hx).e;have c:=(h x hx).t
 omega
end Go.Proofs.YtlecajlnjmbilaaGreatDoor.Q
namespace Go.Proofs.YtlecajlnjmbilaaGreatDoor.Q
open Go.RowKit Go.Proofs.YtlecajlnjmbilaaGreatDoor.P Go.Proofs.ab.ao Go.Proofs.ab.aE Go.Proofs.ab.aI
theorem lD (ino:Int) (l:List aZ):∀i:Nat,cC ino l i= -1∨((i:Int)≤cC ino l i∧cC ino l i<i+l.length):=by
 induction l with
 |nil=>intro i;exact .inl rfl
 |cons x l ih=>
  intro i;rw[cC]
  split
  ·right;simp only[List.length_cons];omega
  ·rcases ih (i+1)with h|h
   ·exact .inl h
   ·right;simp only[List.length_cons];omega
theorem oO (l:List aZ) (nx ino:Int) (hl:l.length≤1048576):Ev (fun k=>cF.f k l nx ino) (cC ino l 0):=by
 have key:=down (n:=l.length) (P:=fun i=>Ev (fun k=>cF.l0 k ino (i:Nat) l nx) (cC ino (l.drop i) i)) (by
   apply aX
   simp only[cF.l0];refine dv (by omega) (eW (Ev.now _) ?_)
   rw[List.drop_length];rfl) (fun i hi h=>by
   have hrd:af l (i:Int)=l[i]:=getD_at l _ i hi
   apply aX
   simp only[cF.l0,hrd];rw[nn i l.length hi (by omega),List.drop_eq_getElem_cons hi,cC];refine bn (by omega) (bn (by omega) ?_)
   by_cases c:l[i].f0=ino
   ·exact bn c (eW (Ev.now _) (by rw[if_pos c]))
   ·exact dv c (eW h (by rw[if_neg c])))
 simpa [cF.f]using key
end Go.Proofs.YtlecajlnjmbilaaGreatDoor.Q
namespace Go.Proofs.YtlecajlnjmbilaaGreatDoor.Q
open Go.RowKit Go.Proofs.YtlecajlnjmbilaaGreatDoor.P Go.Proofs.ab.ao Go.Proofs.ab.aE Go.Proofs.ab.aI
def fg (l:List aZ) (ino:Int):aZ:=if cC ino l 0<0 then⟨0,0,0,[],[],[]⟩else af l (cC ino l 0)
def fc (l:List aZ) (ino:Int):Bool:=decide (0≤cC ino l 0)
theorem jh (l:List aZ) (ino:Int) (hs:∀x∈l,gu x):gu (fg l ino):=by
 unfold fg
 split
 ·exact⟨by simp,by simp,by simp⟩
 ·rcases lD ino l 0 with h|h
  ·omega
  ·obtain⟨n,hn⟩:∃n:Nat,cC ino l 0=n:=⟨(cC ino l 0).toNat,by omega⟩;rw[hn]at h⊢
   have hlt:n<l.length:=by omega
   have hrd:af l (n:Int)=l[n]:=getD_at l _ n hlt;rw[hrd];exact hs _ (List.getElem_mem hlt)
theorem nG (l:List aZ) (nx ino:Int) (hl:l.length≤1048576) (hs:∀x∈l,gu x):
  Ev (fun k=>cO.f k l nx ino) ((fg l ino).f0,(fg l ino).f1,(fg l ino).f2,(fg l ino).f3,(fg l ino).f4,(fg l ino).f5,fc l ino):=by
 have hc:=jh l ino hs;have hr:=lD ino l 0;unfold cO.f ez.f;refine Ev.bind (bn (by omega) (Ev.now _)) ?_
 by_cases c:cC ino l 0<0
 ·refine bn c (eW (Ev.now _) ?_);simp only[fg,fc,if_pos c,show decide (0≤cC ino l 0)=false from decide_eq_false (by omega)]
 ·have hi:fg l ino=af l (cC ino l 0):=by simp only[fg,if_neg c]
  rw[hi]at hc⊢;refine dv c (bn (by omega) (bn (by omega) ?_));simp only[rY _ hc,Option.bind_some];refine eW (Ev.now _) ?_;simp only[fc,show decide (0≤cC ino l 0)=true from decide_eq_true (by omega)]
end Go.Proofs.YtlecajlnjmbilaaGreatDoor.Q
namespace Go.Proofs.YtlecajlnjmbilaaGreatDoor.Q
open Go.RowKit Go.Proofs.YtlecajlnjmbilaaGreatDoor.P Go.Proofs.ab.ao Go.Proofs.ab.aE Go.Proofs.ab.aI
theorem pY (l:List aZ) (nx ino:Int) (hl:l.length≤1048576) (hs:∀x∈l,gu x):
  Ev (fun k=>fJ.f k l nx ino) ((fg l ino).f0,(fg l ino).f1,(fg l ino).f2,(fg l ino).f3,(fg l ino).f4,(fg l ino).f5,fc l ino):=by
 have hc:=jh l ino hs;have hr:=lD ino l 0;unfold fJ.f;refine Ev.bind (oO l nx ino hl) ?_
 by_cases c:cC ino l 0<0
 ·refine bn c (eW (Ev.now _) ?_);simp only[fg,fc,if_pos c,show decide (0≤cC ino l 0)=false from decide_eq_false (by omega)]
 ·have hi:fg l ino=af l (cC ino l 0):=by simp only[fg,if_neg c]
  rw[hi]at hc⊢;refine dv c (bn (by omega) (bn (by omega) ?_));simp only[oN _ hc,Option.bind_some];refine eW (Ev.now _) ?_;simp only[fc,show decide (0≤cC ino l 0)=true from decide_eq_true (by omega)]
end Go.Proofs.YtlecajlnjmbilaaGreatDoor.Q
namespace Go.Proofs.YtlecajlnjmbilaaGreatDoor.Q
open Go.RowKit Go.Proofs.YtlecajlnjmbilaaGreatDoor.P Go.Proofs.ab.ao Go.Proofs.ab.aE Go.Proofs.ab.aI
def my (name:ByteArray):List db→Int
 |[]=>0
 |e::l=>if e.f0.toList=name.toList then e.f1 else my name l
theorem xg (a b c:Int) (d:List Int) (e:List db) (t:List ey) (name:ByteArray) (he:e.length≤9223372036854775807):Ev (fun k=>fa.f k a b c d e t name) (my name e):=by
 unfold fa.f;refine xN (fun k i=>fa.l0 k name i a b c d e t) e (my name) ?_ (fun i hi h=> ?_)
 ·apply aX
  simp only[fa.l0];exact dv (by omega) (Ev.now _)
 ·apply aX
  simp only[fa.l0,al,getD_at e _ i hi,my];refine bn (by omega) (bn (by omega) ?_);rw[nn i e.length hi he];exact yz (fun _=>Ev.now _) (fun _=>h)
theorem xh (a b c:Int) (d:List Int) (e:List db) (t:List ey) (name:ByteArray) (he:e.length≤9223372036854775807):Ev (fun k=>fb.f k a b c d e t name) (my name e):=by
 unfold fb.f;refine xN (fun k i=>fb.l0 k name e (e.length:Int) i) e (my name) ?_ (fun i hi h=> ?_)
 ·apply aX
  simp only[fb.l0];exact dv (by omega) (Ev.now _)
 ·apply aX
  simp only[fb.l0,al,getD_at e _ i hi,my];refine bn (by omega) (bn (by omega) (bn (by omega) ?_));rw[nn i e.length hi he];exact yz (fun _=>Ev.now _) (fun _=>h)
end Go.Proofs.YtlecajlnjmbilaaGreatDoor.Q
namespace Go.Proofs.YtlecajlnjmbilaaGreatDoor.Q
open Go.RowKit Go.Proofs.YtlecajlnjmbilaaGreatDoor.P Go.Proofs.ab.ao Go.Proofs.ab.aE Go.Proofs.ab.aI
theorem adC (i:Nat) (n:Nat) (hi:i<n) (hn:n≤9223372036854775807):wrap64 ((i:Int)+1)=((i+1:Nat):Int):=by
 rw[lC (by omega) (by omega)];omega
theorem aef {n:Nat}{P:Nat→Prop}(h1:P n) (h2:∀i,i<n→P (i+1)→P i):P 0:=by
 have key:∀m i:Nat,n-i=m→i≤n→P i:=by
  intro m
  induction m with
  |zero=>
   intro i hm hi
   obtain rfl:i=n:=by omega
   exact h1
  |succ m ih=>intro i hm hi;exact h2 i (by omega) (ih (i+1) (by omega) (by omega))
 exact key n 0 (by omega) (by omega)
theorem rdS (l:List ByteArray) (i:Nat) (h:i<l.length):iZ ByteArray.empty l (i:Int)=l[i]:=getD_at l _ i h
def ji (l:List ByteArray):Nat:=(l.map ByteArray.size).sum
theorem xi (l:List ByteArray) (i:Nat) (h:i<l.length):ji (l.drop i)=l[i].size+ji (l.drop (i+1)):=by
 unfold ji;rw[List.drop_eq_getElem_cons h,List.map_cons,List.sum_cons]
theorem th (l:List ByteArray):∀x∈l,x.size≤ji l:=by
 induction l with
 |nil=>intro x hx;cases hx
 |cons y l ih=>
  intro x hx;unfold ji at ih⊢;rw[List.map_cons,List.sum_cons];rcases List.mem_cons.1 hx with rfl|hx
  ·omega
  ·have:=ih x hx;omega
theorem xQ (l:List ByteArray) (hs:∀x∈l,x.size≤1048576):∀i:Nat,∃r,Ev (fun k=>badR k l i) r∧(decide (0≤r))= !(l.all fR):=by
 induction l with
 |nil=>intro i;exact⟨-1,Ev.now _,rfl⟩
 |cons x l ih=>
  intro i;have hx:=qm x (by have:=hs x (List.mem_cons_self ..);omega)
  by_cases c:fR x=true
  ·obtain⟨r,h1,h2⟩:=ih (fun y hy=>hs y (List.mem_cons_of_mem _ hy)) (i+1);refine⟨r,?_,by rw[h2,List.all_cons,c,Bool.true_and]⟩;simp only[badR];exact Ev.bind hx (bn c h1)
  ·refine⟨(i:Int),?_,by simp[c]⟩;simp only[badR];exact Ev.bind hx (dv c (Ev.now _))
def ei (l:List ByteArray):Bool:=l.all fR&&decide (l.length≤30)
theorem xj (l:List ByteArray) (hs:∀x∈l,x.size≤1048576):Ev (fun k=>ff.f k l) (ei l):=by
 unfold ff.f ei
 by_cases c:l.length≤30
 ·obtain⟨r,h1,h2⟩:=xQ l hs 0;refine bn c (Ev.bind h1 (eW (Ev.now _) ?_));rw[h2];simp[c]
 ·exact dv c (eW (Ev.now _) (by simp[c]))
end Go.Proofs.YtlecajlnjmbilaaGreatDoor.Q
namespace Go.Proofs.YtlecajlnjmbilaaGreatDoor.Q
open Go.RowKit Go.Proofs.YtlecajlnjmbilaaGreatDoor.P Go.Proofs.ab.ao Go.Proofs.ab.aE Go.Proofs.ab.aI
end Go.Proofs.YtlecajlnjmbilaaGreatDoor.Q
namespace Go.Proofs.YtlecajlnjmbilaaGreatDoor.Q
open Go.RowKit Go.Proofs.YtlecajlnjmbilaaGreatDoor.P Go.Proofs.ab.ao Go.Proofs.ab.aE Go.Proofs.ab.aI
def iy (q:List UInt8):List (List UInt8)→List (List UInt8)
 |[]=>[q]
 |p::ps=>(q++p)::ps
def parts:List UInt8→List (List UInt8)
 |[]=>[[]]
 |b::l=>if b=47 then []::parts l else iy [b] (parts l)
theorem la (l:List UInt8):parts l≠[]:=by
 cases l with
 |nil=>simp[parts]
 |cons b l=>
  rw[parts]
  split
  ·simp
  ·cases parts l<;>simp[iy]
theorem ot (X:List (List UInt8)) (h:X≠[]):iy [] X=X:=by
 cases X with
 |nil=>exact absurd rfl h
 |cons p ps=>rfl
theorem qG (q r:List UInt8) (X:List (List UInt8)):iy q (iy r X)=iy (q++r) X:=by
 cases X<;>simp[iy]
theorem yI (k:Nat) (b:UInt8) (l:List UInt8) (h:b≠47):Lib.splitK [47] 0 k (b::l)=iy [b] (Lib.splitK [47] 0 k l):=by
 cases k with
 |zero=>rfl
 |succ k=>
  have hp:([47]:List UInt8).isPrefixOf (b::l)=false:=by simp[List.isPrefixOf,Ne.symm h]
  have hix:Lib.index (b::l) [47]=if Lib.index l [47]== -1 then-1 else Lib.index l [47]+1:=by rw[Lib.index,hp];simp
  by_cases hm:Lib.index l [47]= -1
  ·rw[Lib.splitK,Lib.splitK,hix,hm];rfl
  ·have hge:=Lib.index_ge l [47];obtain⟨j,hj⟩:∃j:Nat,Lib.index l [47]=j:=⟨(Lib.index l [47]).toNat,by omega⟩
   have hix':Lib.index (b::l) [47]=((j+1:Nat):Int):=by rw[hix,if_neg (fun e=>hm (beq_iff_eq.1 e)),hj];omega
   have n1:¬(((j+1:Nat):Int)== -1)=true:=fun e=>by have:=beq_iff_eq.1 e;omega
   have n2:¬((j:Int)== -1)=true:=fun e=>by have:=beq_iff_eq.1 e;omega
   rw[Lib.splitK,Lib.splitK,hix',hj,if_neg n1,if_neg n2,Int.toNat_natCast,Int.toNat_natCast];simp[iy]
theorem yJ (k:Nat) (l:List UInt8):Lib.splitK [47] 0 (k+1) (47::l)=[]::Lib.splitK [47] 0 k l:=by
 have hix:Lib.index (47::l) [47]=0:=by rw[Lib.index];simp[List.isPrefixOf]
 rw[Lib.splitK,hix,if_neg (by decide)];simp
theorem uk (l:List UInt8):Lib.splitK [47] 0 (Lib.count l [47]) l=parts l:=by
 induction l with
 |nil=>rw[Lib.count_miss (by simp[Lib.index])];rfl
 |cons b l ih=>
  rw[parts]
  by_cases h:b=47
  ·subst h;rw[if_pos rfl,Lib.count_cons_eq,Nat.add_comm,yJ,ih]
  ·rw[if_neg h,Lib.count_cons_ne b 47 l h,yI _ _ _ h,ih]
def oU (l:List UInt8):ByteArray:=⟨l.toArray⟩
theorem pZ (s:ByteArray):oU s.data.toList=s:=by simp[oU]
theorem vu (l:List UInt8):(oU l).size=l.length:=by rw[←fw];simp[oU]
theorem r_ (l:List UInt8):(oU l).data.toList=l:=by simp[oU]
theorem um (s:ByteArray):Lib.splitB ⟨#[47]⟩ 0 (Lib.countB s ⟨#[47]⟩) s=(parts s.data.toList).map oU:=by
 have h:=Lib.splitB_data ⟨#[47]⟩ 0 (Lib.countB s ⟨#[47]⟩) s;have hc:Lib.countB s ⟨#[47]⟩=Lib.count s.data.toList [47]:=rfl;rw[show(⟨#[47]⟩:ByteArray).data.toList=[47]from rfl,hc,uk]at h;rw[hc,←h,List.map_map]
 conv=>lhs;rw[←List.map_id (Lib.splitB _ _ _ _)]
 apply List.map_congr_left
 intro x _;exact(pZ x).symm
theorem yK (l:List UInt8):∀p∈parts l,p.length≤l.length:=by
 induction l with
 |nil=>intro p hp;simp[parts]at hp;subst hp;simp
 |cons b l ih=>
  intro p hp;rw[parts]at hp
  split at hp
  ·rcases List.mem_cons.1 hp with rfl|hp
   ·simp
   ·have:=ih p hp;simp;omega
  ·cases hX:parts l with
   |nil=>exact absurd hX (la l)
   |cons q X=>
    rw[hX]at hp ih;rcases List.mem_cons.1 hp with rfl|hp
    ·have:=ih q (List.mem_cons_self ..);simp;omega
    ·have:=ih p (List.mem_cons_of_mem _ hp);simp;omega
theorem ti (l:List UInt8):(parts l).length≤l.length+1:=by
 induction l with
 |nil=>simp[parts]
 |cons b l ih=>
  rw[parts]
  split
  ·simp;omega
  ·cases hX:parts l with
   |nil=>simp[iy]
   |cons q X=>rw[hX]at ih;simp[iy]at ih⊢;omega
def cN (s:ByteArray):List ByteArray×Bool:=
 if s.toList=([47]:List UInt8)then([],true)else
 match(parts s.data.toList).map oU with
 |[]=>([],false)
 |x::l=>if x.toList=[]∧l≠[]∧ei l=true then(l,true)else([],false)
theorem pB (s:ByteArray) (hs:s.size≤1048576):Ev (fun k=>d_.f k s) (cN s):=by
 unfold d_.f cN;refine yz (fun _=>Ev.now _) (fun _=> ?_)
 have h0:strings_Split.f s ⟨#[47]⟩=some ((parts s.data.toList).map oU):=by
  unfold strings_Split.f;rw[if_pos ⟨by omega,by decide⟩,um]
 simp only[h0,Option.bind_some];have hps:=yK s.data.toList;have hsz:s.data.toList.length=s.size:=fw s;have hpl:=ti s.data.toList
 cases hX:parts s.data.toList with
 |nil=>exact absurd hX (la _)
 |cons p ps=>
  rw[hX]at hps hpl;rw[List.map_cons];refine bn (by rw[List.length_cons];omega) ?_;have hr:iZ ByteArray.empty (oU p::ps.map oU) 0=oU p:=rfl;simp only[hr]
  by_cases c:(oU p).toList=[]
  ·refine bn c ?_
   cases hq:ps with
   |nil=>exact bn (by simp) (eW (Ev.now _) (by simp))
   |cons q qs=>
    rw[←hq]
    have hne:ps.map oU≠[]:=by rw[hq];simp
    have hl:0<ps.length:=by rw[hq];simp
    refine dv (by simp;omega) (bn (by simp;omega) ?_)
    have hn:=xj (ps.map oU) (by
     intro x hx;obtain⟨y,hy,rfl⟩:=List.mem_map.1 hx;rw[vu];have:=hps y (List.mem_cons_of_mem _ hy)
     omega)
    refine Ev.bind hn ?_
    by_cases g:ei (ps.map oU)=true
    ·exact bn g (eW (Ev.now _) (by rw[if_pos ⟨c,hne,g⟩];rfl))
    ·exact dv g (eW (Ev.now _) (by rw[if_neg (fun h=>g h.2.2)]))
  ·exact dv c (eW (Ev.now _) (by rw[if_neg (fun h=>c h.1)]))
def proc:List ByteArray→List (List UInt8)→Option (List ByteArray)
 |out,[]=>some out
 |out,p::ps=>if fR (oU p)=true then(if out.length=30 then none else proc (out++[oU p]) ps)else none
theorem aco (ps:List (List UInt8)):∀out:List ByteArray,out.length≤30→proc out ps=if(ps.map oU).all fR=true∧out.length+ps.length≤30 then some (out++ps.map oU)else none:=by
 induction ps with
 |nil=>intro out h;simp[proc,h]
 |cons p ps ih=>
  intro out h;rw[proc]
  by_cases c:fR (oU p)=true
  ·rw[if_pos c]
   by_cases d:out.length=30
   ·rw[if_pos d,if_neg (by simp;omega)]
   ·rw[if_neg d,ih _ (by simp;omega)];simp only[List.map_cons,List.all_cons,c,Bool.true_and,List.length_append,List.length_cons,List.length_nil,List.append_assoc,List.singleton_append]
    congr 1
    simp only[Nat.zero_add,Nat.add_assoc,Nat.add_comm 1]
  ·rw[if_neg c,if_neg (by simp[c])]
def uo (s:ByteArray):Option (List ByteArray)→List ByteArray×Bool
 |none=>([],false)
 |some out=>if s.data.toList.head? =some 47 then(out,true)else([],false)
theorem uq (s:ByteArray) (i:Nat) (h:i<s.size):bt s (i:Int)=((s.data.toList[i]'(by rw[fw];exact h)).toNat:Int):=by
 rw[←iF s (i:Int) (by rw[Int.toNat_natCast];exact h)];simp only[Int.toNat_natCast]
 rfl
theorem u47 (b:UInt8):((b.toNat:Int)=47)↔b=47:=by
 constructor
 ·intro h
  have:b.toNat=47:=by omega
  exact UInt8.toNat_inj.1 (this.trans rfl)
 ·rintro rfl;rfl
theorem ou (s:ByteArray) (out:List ByteArray) (i f:Int) (k:Nat) (h:¬i≤(s.size:Int)):aG.l0 (k+1) s out f i=some (uo s (some out)):=by
 simp only[aG.l0];rw[if_neg h];have hsz:s.data.toList.length=s.size:=fw s
 cases hd:s.data.toList with
 |nil=>
  rw[hd]at hsz;rw[if_pos (by simp at hsz;omega)];simp[uo,hd]
 |cons b l=>
  have hl:0<s.size:=by rw[←hsz,hd];simp
  rw[if_neg (by omega),if_pos (by omega)];have hb:=uq s 0 hl;simp only[hd,List.getElem_cons_zero]at hb;have hb':bt s 0=(b.toNat:Int):=hb;rw[hb']
  by_cases c:b=47
  ·rw[if_pos ((u47 b).2 c)];simp[uo,hd,c]
  ·rw[if_neg (fun h=>c ((u47 b).1 h))];simp[uo,hd,c]
theorem drop_at (s:ByteArray) (i:Nat) (h:i<s.size):s.data.toList.drop i=(s.data.toList[i]'(by rw[fw];exact h))::s.data.toList.drop (i+1):=List.drop_eq_getElem_cons _
theorem nQ (s:ByteArray) (hs:s.size≤1048576):∀(n i f:Nat) (out:List ByteArray),1≤i→i≤s.size→f≤i→s.size-i=n→out.length≤30→
  Ev (fun k=>aG.l0 k s out f i) (uo s (proc out (iy ((s.data.toList.drop f).take (i-f)) (parts (s.data.toList.drop i))))):=by
 have hsz:s.data.toList.length=s.size:=fw s;intro n
 induction n with
 |zero=>
  intro i f out h1 hi hf hn ho
  obtain rfl:i=s.size:=by omega
  have hx:(s.extract f s.size)=oU ((s.data.toList.drop f).take (s.size-f)):=by
   rw[←pZ (s.extract f s.size)]
   congr 1
   rw[Lib.extract_data]
  have hsl:(s.extract f s.size).size≤9223372036854775807:=by rw[ByteArray.size_extract];omega
  rw[List.drop_eq_nil_of_le (by omega:s.data.toList.length≤s.size)];have hnm:=lW (s.extract f s.size) hsl
  apply aX
  simp only[aG.l0];refine bn (by omega) (dv (by omega) ?_)
  apply aX
  simp only[aG.j1];refine dv (by simp) (bn (by omega) (bn (by omega) (bn (by omega) (bn (by omega) ?_))));simp only[Int.toNat_natCast];refine Ev.bind hnm ?_;rw[hx];simp only[parts,iy,List.append_nil,proc]
  by_cases c:fR (oU ((s.data.toList.drop f).take (s.size-f)))=true
  ·refine bn c ?_;rw[if_pos c]
   by_cases d:out.length=30
   ·rw[if_pos d];exact bn (by omega) (Ev.now _)
   ·rw[if_neg d];refine dv (by omega) (bn (by omega) ?_)
    apply aX
    rw[lC (by omega) (by omega)];simp only[ou s _ _ _ _ (show¬((s.size:Int)+1)≤(s.size:Int) by omega)];exact Ev.now _
  ·rw[if_neg c];exact dv c (Ev.now _)
 |succ n ih=>
  intro i f out h1 hi hf hn ho
  have hlt:i<s.size:=by omega
  have hb:=uq s i hlt;have hd:=drop_at s i hlt;generalize hB:(s.data.toList[i]'(by rw[fw];exact hlt))=B at hb hd
  have hnx:wrap64 ((i:Int)+1)=((i+1:Nat):Int):=by rw[lC (by omega) (by omega)];omega
  have htk:(s.data.toList.drop f).take (i+1-f)=(s.data.toList.drop f).take (i-f)++[B]:=by
   rw[show i+1-f=(i-f)+1 by omega,List.take_succ_eq_append_getElem (by rw[List.length_drop];omega)]
   congr 2
   rw[List.getElem_drop];simp only[show f+(i-f)=i by omega];exact hB
  apply aX
  simp only[aG.l0];refine bn (by omega) (bn (by omega) (bn (by omega) ?_))
  apply aX
  simp only[aG.j1];rw[hb,hnx]
  by_cases c:B=47
  ·have hx:(s.extract f i)=oU ((s.data.toList.drop f).take (i-f)):=by
    rw[←pZ (s.extract f i)]
    congr 1
    rw[Lib.extract_data]
   have hsl:(s.extract f i).size≤9223372036854775807:=by rw[ByteArray.size_extract];omega
   have hnm:=lW (s.extract f i) hsl;rw[hd,parts,if_pos c];refine dv (by simp[(u47 B).2 c]) (bn (by omega) (bn (by omega) (bn (by omega) (bn (by omega) ?_))));simp only[Int.toNat_natCast];refine Ev.bind hnm ?_;rw[hx];simp only[iy,List.append_nil,proc]
   by_cases cn:fR (oU ((s.data.toList.drop f).take (i-f)))=true
   ·refine bn cn ?_;rw[if_pos cn]
    by_cases d:out.length=30
    ·rw[if_pos d];exact bn (by omega) (Ev.now _)
    ·rw[if_neg d];refine dv (by omega) (bn (by omega) ?_);have:=ih (i+1) (i+1) (out++[oU ((s.data.toList.drop f).take (i-f))]) (by omega) (by omega) (Nat.le_refl _) (by omega) (by simp;omega);rw[Nat.sub_self,List.take_zero,ot _ (la _)]at this;exact this
   ·rw[if_neg cn];exact dv cn (Ev.now _)
  ·rw[hd,parts,if_neg c,qG,←htk];refine bn (by simpa using fun h=>c ((u47 B).1 h)) ?_;exact ih (i+1) f out (by omega) (by omega) (by omega) (by omega) ho
theorem sa (s:ByteArray) (hs:s.size≤1048576):Ev (fun k=>aG.f k s) (cN s):=by
 have hsz:s.data.toList.length=s.size:=fw s;unfold aG.f cN;simp only[Option.bind_some];refine yz (fun _=>Ev.now _) (fun _=> ?_)
 cases hd:s.data.toList with
 |nil=>
  rw[hd]at hsz
  have h0:s.size=0:=by simpa using hsz.symm
  apply aX
  simp only[aG.l0];refine bn (by omega) (dv (by omega) ?_)
  apply aX
  simp only[aG.j1];refine dv (by simp) (dv (by omega) ?_)
  apply aX
  simp only[ou s _ _ _ _ (show¬(wrap64 (0+1))≤(s.size:Int) by rw[h0,lC (by omega) (by omega)];omega)];exact eW (Ev.now _) (by simp[uo,hd,parts])
 |cons b l=>
  have hl:0<s.size:=by rw[←hsz,hd];simp
  have hb:=uq s 0 hl;simp only[hd,List.getElem_cons_zero]at hb;have hb':bt s 0=(b.toNat:Int):=hb
  apply aX
  simp only[aG.l0];refine bn (by omega) (bn (by omega) (bn (by omega) ?_))
  apply aX
  simp only[aG.j1];rw[hb',show wrap64 (0+1)=((1:Nat):Int)from lC (by omega) (by omega)]
  by_cases c:b=47
  ·refine dv (by simp[(u47 b).2 c]) (dv (by omega) ?_);have:=nQ s hs (s.size-1) 1 1 [] (by omega) (by omega) (Nat.le_refl _) rfl (by simp);refine eW this ?_;rw[Nat.sub_self,List.take_zero,ot _ (la _),aco _ _ (by simp),hd,parts,if_pos c];simp only[List.drop_succ_cons,List.drop_zero,List.map_cons,List.length_nil,Nat.zero_add,List.nil_append]
   have hne:(parts l).map oU≠[]:=by
    intro h;exact la l (List.map_eq_nil_iff.1 h)
   have he:(oU []).toList=[]:=by rw[toList_data,r_]
   by_cases g:ei ((parts l).map oU)=true
   ·have g':=g;simp only[ei,List.length_map,Bool.and_eq_true,decide_eq_true_eq]at g';rw[if_pos g',if_pos ⟨he,hne,g⟩];simp[uo,hd,c]
   ·have g':¬(((parts l).map oU).all fR=true∧(parts l).length≤30):=by
     intro h;apply g;simp only[ei,List.length_map,Bool.and_eq_true,decide_eq_true_eq];exact h
    rw[if_neg g',if_neg (fun h=>g h.2.2)]
    rfl
  ·refine bn (by simpa using fun h=>c ((u47 b).1 h)) ?_;have:=nQ s hs (s.size-1) 1 0 [] (by omega) (by omega) (by omega) rfl (by simp);refine eW this ?_
   have hf:∀x,uo s x=([],false):=by
    intro x
    cases x with
    |none=>rfl
    |some out=>simp[uo,hd,c]
   rw[hf,parts,if_neg c]
   cases hX:parts l with
   |nil=>exact absurd hX (la l)
   |cons p ps=>
    simp only[iy,List.map_cons];rw[if_neg];intro h;have:=h.1;rw[toList_data,r_]at this;simp at this
end Go.Proofs.YtlecajlnjmbilaaGreatDoor.Q
namespace Go.Proofs.YtlecajlnjmbilaaGreatDoor.Q
open Go.RowKit Go.Proofs.YtlecajlnjmbilaaGreatDoor.P Go.Proofs.ab.ao Go.Proofs.ab.aE Go.Proofs.ab.aI
theorem xR (b:ByteArray):b++(⟨#[]⟩:ByteArray)=b:=ByteArray.ext (by rw[ByteArray.data_append];simp)
theorem acp (b:ByteArray):(⟨#[]⟩:ByteArray)++b=b:=ByteArray.ext (by rw[ByteArray.data_append];simp)
def lh:List ByteArray→ByteArray
 |[]=>⟨#[]⟩
 |x::l=>(⟨#[47]⟩++x)++lh l
theorem sd (l:List ByteArray):(lh l).size=l.length+ji l:=by
 induction l with
 |nil=>rfl
 |cons x l ih=>
  rw[lh,ByteArray.size_append,ByteArray.size_append,ih];have:(⟨#[47]⟩:ByteArray).size=1:=rfl;simp only[ji,List.map_cons,List.sum_cons,List.length_cons]at*
  omega
theorem xk (l:List (List UInt8)):ji (l.map oU)=(l.map List.length).sum:=by
 unfold ji;rw[List.map_map];exact congrArg List.sum (List.map_congr_left fun x _=>vu x)
theorem yL (l:List UInt8):((parts l).map List.length).sum≤l.length:=by
 induction l with
 |nil=>simp[parts]
 |cons b l ih=>
  rw[parts]
  split
  ·simp;omega
  ·cases hX:parts l with
   |nil=>exact absurd hX (la l)
   |cons q X=>rw[hX]at ih;simp[iy]at ih⊢;omega
theorem vv (s:ByteArray) (h:(cN s).2=true):ei (cN s).1=true:=by
 unfold cN at h⊢
 split
 ·rfl
 ·rename_i c0
  rw[if_neg c0]at h
  split
  ·rename_i hX;rw[hX]at h;simp at h
  ·rename_i x l hX
   rw[hX]at h;simp only at h⊢
   split
   ·rename_i c;exact c.2.2
   ·rename_i c;rw[if_neg c]at h;simp at h
theorem mz (s:ByteArray):(cN s).1.length≤s.size∧ji (cN s).1≤s.size:=by
 have h1:=ti s.data.toList;have h2:=yL s.data.toList;rw[fw]at h1 h2;unfold cN
 split
 ·simp[ji]
 ·split
  ·simp[ji]
  ·rename_i x l hX
   split
   ·cases hP:parts s.data.toList with
    |nil=>exact absurd hP (la _)
    |cons p ps=>
     rw[hP]at hX h1 h2;simp only[List.map_cons,List.cons.injEq]at hX;obtain⟨_,rfl⟩:=hX;simp only[List.length_map,xk];simp only[List.map_cons,List.sum_cons,List.length_cons]at h1 h2
     omega
   ·simp[ji]
theorem se (l:List ByteArray) (n:Nat):ji (l.take n)≤ji l:=by
 induction l generalizing n with
 |nil=>simp
 |cons x l ih=>
  cases n with
  |zero=>simp[ji]
  |succ n=>have:=ih n;simp[ji]at this⊢;omega
def pk (l:List ByteArray):ByteArray:=if l.length=0 then⟨#[47]⟩else if ei l=true then lh l else⟨#[]⟩
theorem yM (q r:List UInt8) (h:∀b∈q,b≠47):parts (q++r)=iy q (parts r):=by
 induction q with
 |nil=>rw[List.nil_append,ot _ (la _)]
 |cons b q ih=>
  rw[List.cons_append,parts,if_neg (h b (List.mem_cons_self ..)),ih (fun x hx=>h x (List.mem_cons_of_mem _ hx)),qG]
  rfl
theorem ur (s:ByteArray) (h:fR s=true):(∀b∈s.data.toList,b≠47)∧1≤s.size∧s.size≤14:=by
 unfold fR kZ at h;simp only[Bool.and_eq_true,decide_eq_true_eq]at h;refine⟨fun b hb e=> ?_,h.2.1.1⟩;have:=List.all_eq_true.1 h.1 (b.toNat:Int) (by unfold bytesOf;exact List.mem_map.2 ⟨b,hb,rfl⟩);subst e;exact absurd this (by decide)
theorem sf (x:ByteArray) (l:List ByteArray):(lh (x::l)).data.toList=47::(x.data.toList++(lh l).data.toList):=by
 simp[lh,ByteArray.data_append]
theorem xl (l:List ByteArray) (h:l.all fR=true):parts (lh l).data.toList=[]::l.map (·.data.toList):=by
 induction l with
 |nil=>rfl
 |cons x l ih=>
  rw[List.all_cons,Bool.and_eq_true]at h;rw[sf,parts,if_pos rfl,yM _ _ (ur x h.1).1,ih h.2];simp[iy]
theorem map_mk (l:List ByteArray):(l.map (·.data.toList)).map oU=l:=by
 rw[List.map_map]
 conv=>rhs;rw[←List.map_id l]
 exact List.map_congr_left fun x _=>pZ x
theorem vw:cN ⟨#[47]⟩=([],true):=by
 unfold cN;rw[if_pos (by rw[toList_data])]
theorem uu (l:List ByteArray) (hg:ei l=true):(lh l).toList≠([47]:List UInt8):=by
 cases l with
 |nil=>rw[toList_data];simp[lh]
 |cons x l=>
  rw[toList_data,sf]
  have hx:fR x=true:=by
   unfold ei at hg;simp only[List.all_cons,Bool.and_eq_true]at hg;exact hg.1.1
  have:=(ur x hx).2.1;intro e;simp only[List.cons.injEq,List.append_eq_nil_iff,true_and]at e;rw[←fw,e.1]at this;simp at this
theorem vx (l:List ByteArray) (hl:l≠[]) (hg:ei l=true):cN (lh l)=(l,true):=by
 have ha:l.all fR=true:=by unfold ei at hg;simp only[Bool.and_eq_true]at hg;exact hg.1
 unfold cN;rw[if_neg (uu l hg),xl l ha,List.map_cons,map_mk];simp only;rw[if_pos ⟨by rw[toList_data,r_],hl,hg⟩]
theorem vy (l:List ByteArray) (hg:ei l=true):cN (pk l)=(l,true):=by
 unfold pk
 by_cases c:l.length=0
 ·rw[if_pos c,vw,List.eq_nil_of_length_eq_zero c]
 ·rw[if_neg c,if_pos hg,vx l (fun h=>c (by rw[h];rfl)) hg]
theorem xm (l:List ByteArray) (hg:ei l=true):(pk l).size=max 1 (l.length+ji l):=by
 unfold pk
 by_cases c:l.length=0
 ·rw[if_pos c,List.eq_nil_of_length_eq_zero c];rfl
 ·rw[if_neg c,if_pos hg,sd];omega
end Go.Proofs.YtlecajlnjmbilaaGreatDoor.Q
namespace Go.Proofs.YtlecajlnjmbilaaGreatDoor.Q
open Go.RowKit Go.Proofs.YtlecajlnjmbilaaGreatDoor.P Go.Proofs.ab.ao Go.Proofs.ab.aE Go.Proofs.ab.aI
def lE (T:List aZ):List ByteArray→Int→Int×Int
 |[],ino=>(ino,0)
 |n::l,ino=>if fc T ino=true then(if(fg T ino).f1=2 then(if my n (fg T ino).f4=0 then(0,2)else lE T l (my n (fg T ino).f4))else(0,3))else(0,2)
def kb (T:List aZ) (s:ByteArray):Int×Int:=if(cN s).2=true then lE T (cN s).1 1 else(0,1)
theorem vz {γ:Type}(L:Nat→Int→Int→Option γ) (xs:List ByteArray) (F:List ByteArray→Int→γ) (h1:∀ino,Ev (fun k=>L k ino (xs.length:Nat)) (F [] ino))
  (h2:∀(i:Nat) (hi:i<xs.length) (ino:Int),(∀aeg,Ev (fun k=>L k aeg ((i+1:Nat):Int)) (F (xs.drop (i+1)) aeg))→Ev (fun k=>L k ino (i:Nat)) (F (xs[i]::xs.drop (i+1)) ino)) (ino:Int):Ev (fun k=>L k ino 0) (F xs ino):=by
 have key:∀m i:Nat,xs.length-i=m→i≤xs.length→∀ino,Ev (fun k=>L k ino (i:Nat)) (F (xs.drop i) ino):=by
  intro m
  induction m with
  |zero=>
   intro i hm hi ino
   obtain rfl:i=xs.length:=by omega
   rw[List.drop_length];exact h1 ino
  |succ m ih=>
   intro i hm hi ino;rw[List.drop_eq_getElem_cons (by omega)];exact h2 i (by omega) ino (ih (i+1) (by omega) (by omega))
 simpa using key xs.length 0 (by omega) (by omega) ino
theorem yN (T:List aZ) (nx:Int) (s:ByteArray) (hT:T.length≤1048576) (hs:∀x∈T,gu x) (h:s.size≤1048576):Ev (fun k=>fj.f k T nx s) (kb T s):=by
 unfold fj.f kb;refine Ev.bind (pB s h) ?_;have hl:=(mz s).1;generalize cN s=p at*;refine yz (fun _=> ?_) (fun _=>Ev.now _);refine vz (fun k ino i=>fj.l0 k ino p.1 p.1.length i T nx) p.1 (lE T) (fun ino=> ?_) (fun i hi ino ih=> ?_) 1
 ·apply aX
  simp only[fj.l0];exact dv (by omega) (Ev.now _)
 ·have hx:=jh T ino hs
  apply aX
  simp only[fj.l0,lE];rw[adC i p.1.length hi (by omega),rdS p.1 i hi];refine bn (by omega) (bn (by omega) (bn (by omega) (Ev.bind (nG T nx ino hT hs) ?_)));refine yz (fun _=>yz (fun _=> ?_) (fun _=>Ev.now _)) (fun _=>Ev.now _);refine Ev.bind (xh _ _ _ _ _ _ p.1[i] (by have:=hx.e;dsimp only;omega)) ?_;exact yz (fun _=>Ev.now _) (fun _=>ih _)
theorem yO (T:List aZ) (nx:Int) (s:ByteArray) (hT:T.length≤1048576) (hs:∀x∈T,gu x) (h:s.size≤1048576):Ev (fun k=>kt.f k T nx s) (kb T s):=by
 unfold kt.f kb;refine Ev.bind (sa s h) ?_;have hl:=(mz s).1;generalize cN s=p at*;refine yz (fun _=> ?_) (fun _=>Ev.now _);unfold cK.f;refine Ev.bind (vz (fun k ino i=>cK.l0 k p.1 ino i T nx) p.1 (lE T) (fun ino=> ?_) (fun i hi ino ih=> ?_) 1) (Ev.now _)
 ·apply aX
  simp only[cK.l0];exact dv (by omega) (Ev.now _)
 ·have hx:=jh T ino hs;have hr:=lD ino T 0
  apply aX
  simp only[cK.l0,lE];rw[adC i p.1.length hi (by omega),rdS p.1 i hi];refine bn (by omega) (Ev.bind (oO T nx ino hT) ?_)
  by_cases c:cC ino T 0<0
  ·have hn:¬fc T ino=true:=by simp only[fc,decide_eq_true_eq];omega
   rw[if_neg hn];exact bn c (Ev.now _)
  ·have hy:fc T ino=true:=by simp only[fc,decide_eq_true_eq];omega
   have hi':fg T ino=af T (cC ino T 0):=by simp only[fg,if_neg c]
   rw[if_pos hy,hi'];rw[hi']at hx;refine dv c (bn (by omega) (bn (by omega) (yz (fun _=>bn (by omega) ?_) (fun _=>Ev.now _))));refine Ev.bind (xg _ _ _ _ _ _ p.1[i] (by have:=hx.e;omega)) ?_;exact yz (fun _=>Ev.now _) (fun _=>ih _)
end Go.Proofs.YtlecajlnjmbilaaGreatDoor.Q
namespace Go.Proofs.YtlecajlnjmbilaaGreatDoor.Q
open Go.RowKit Go.Proofs.YtlecajlnjmbilaaGreatDoor.P Go.Proofs.ab.ao Go.Proofs.ab.aE Go.Proofs.ab.aI
def pC:aZ:=⟨0,0,0,[],[],[]⟩
def gx (T:List aZ) (s:ByteArray):aZ×Int:=
 if(kb T s).2=0 then(if fc T (kb T s).1=true then(fg T (kb T s).1,0)else(pC,2))else(pC,(kb T s).2)
def ze (p:aZ×Int):Int×Int×Int×List Int×List db×List ey×Int:=(p.1.f0,p.1.f1,p.1.f2,p.1.f3,p.1.f4,p.1.f5,p.2)
theorem vA (T:List aZ) (s:ByteArray) (hs:∀x∈T,gu x):gu (gx T s).1:=by
 unfold gx
 split
 ·split
  ·exact jh T _ hs
  ·exact⟨by simp[pC],by simp[pC],by simp[pC]⟩
 ·exact⟨by simp[pC],by simp[pC],by simp[pC]⟩
theorem tj (T:List aZ) (nx:Int) (s:ByteArray) (hT:T.length≤1048576) (hs:∀x∈T,gu x) (h:s.size≤1048576):Ev (fun k=>gw.f k T nx s) (ze (gx T s)):=by
 unfold gw.f;refine Ev.bind (yN T nx s hT hs h) ?_
 by_cases c:(kb T s).2=0
 ·refine bn c (Ev.bind (nG T nx _ hT hs) ?_)
  by_cases d:fc T (kb T s).1=true
  ·exact bn d (eW (Ev.now _) (by simp only[gx,ze,if_pos c,if_pos d]))
  ·exact dv d (eW (Ev.now _) (by simp only[gx,ze,if_pos c,if_neg d];rfl))
 ·exact dv c (eW (Ev.now _) (by simp only[gx,ze,if_neg c];rfl))
theorem tk (T:List aZ) (nx:Int) (s:ByteArray) (hT:T.length≤1048576) (hs:∀x∈T,gu x) (h:s.size≤1048576):Ev (fun k=>iB.f k T nx s) (ze (gx T s)):=by
 unfold iB.f;refine Ev.bind (yO T nx s hT hs h) ?_
 by_cases c:(kb T s).2=0
 ·refine bn c (Ev.bind (pY T nx _ hT hs) ?_)
  by_cases d:fc T (kb T s).1=true
  ·exact bn d (eW (Ev.now _) (by simp only[gx,ze,if_pos c,if_pos d]))
  ·exact dv d (eW (Ev.now _) (by simp only[gx,ze,if_pos c,if_neg d];rfl))
 ·exact dv c (eW (Ev.now _) (by simp only[gx,ze,if_neg c];rfl))
end Go.Proofs.YtlecajlnjmbilaaGreatDoor.Q
namespace Go.Proofs.YtlecajlnjmbilaaGreatDoor.Q
open Go.RowKit Go.Proofs.YtlecajlnjmbilaaGreatDoor.P Go.Proofs.ab.ao Go.Proofs.ab.aE Go.Proofs.ab.aI
theorem xn:∀(a b:List Int),a.Pairwise (·<·)→b.Pairwise (·<·)→(∀x,x∈a↔x∈b)→a=b
 |[],[],_,_,_=>rfl
 |[],y::b,_,_,h=>absurd ((h y).2 (List.mem_cons_self ..)) (by simp)
 |x::a,[],_,_,h=>absurd ((h x).1 (List.mem_cons_self ..)) (by simp)
 |x::a,y::b,ha,hb,h=>by
  obtain⟨ha1,ha2⟩:=List.pairwise_cons.1 ha;obtain⟨hb1,hb2⟩:=List.pairwise_cons.1 hb
  have hxy:x=y:=by
   rcases List.mem_cons.1 ((h x).1 (List.mem_cons_self ..))with h1|h1
   ·exact h1
   ·rcases List.mem_cons.1 ((h y).2 (List.mem_cons_self ..))with h2|h2
    ·exact h2.symm
    ·have:=hb1 x h1;have:=ha1 y h2;omega
  subst hxy;rw[xn a b ha2 hb2 (fun z=> ?_)]
  constructor
  ·intro hz;rcases List.mem_cons.1 ((h z).1 (List.mem_cons_of_mem _ hz))with rfl|h1
   ·have:=ha1 z hz;omega
   ·exact h1
  ·intro hz;rcases List.mem_cons.1 ((h z).2 (List.mem_cons_of_mem _ hz))with rfl|h1
   ·have:=hb1 z hz;omega
   ·exact h1
theorem yP (l:List Int) (x:Int):x∈nM l↔x∈l:=List.mem_mergeSort ..
theorem abw (l:List Int) (h:l.Nodup):(nM l).Pairwise (·<·):=by
 have h1:(nM l).Pairwise fun x y=>decide (x≤y)=true:=List.pairwise_mergeSort (fun a b c h1 h2=>by simp at*;omega) (fun a b=>by simp;omega) l
 have h2:(nM l).Nodup:=(List.mergeSort_perm l _).nodup_iff.2 h;exact(h1.and h2).imp (fun⟨a,b⟩=>by simp at a;omega)
def uz (xs:List Int) (n:Int):Nat→Nat
 |0=>0
 |k+1=>if xs.getD k 0>n then uz xs n k else k+1
def sg (xs:List Int) (n:Int):List Int:=if n∈xs then xs else xs.take (uz xs n xs.length)++[n]++xs.drop (uz xs n xs.length)
theorem abx (xs:List Int) (n:Int):∀k,uz xs n k≤k
 |0=>Nat.le_refl _
 |k+1=>by rw[uz];split;exact Nat.le_succ_of_le (abx xs n k);exact Nat.le_refl _
theorem vB (xs:List Int) (n x:Int):x∈sg xs n↔x∈xs∨x=n:=by
 unfold sg
 split
 ·constructor
  ·exact .inl
  ·rintro(h|rfl)<;>assumption
 ·rw[List.mem_append,List.mem_append,List.mem_singleton]
  conv=>rhs;rw[←List.take_append_drop (uz xs n xs.length) xs,List.mem_append]
  constructor
  ·rintro((h|h)|h)
   ·exact .inl (.inl h)
   ·exact .inr h
   ·exact .inl (.inr h)
  ·rintro((h|h)|h)
   ·exact .inl (.inl h)
   ·exact .inr h
   ·exact .inl (.inr h)
theorem aby (xs:List Int) (n:Int):∀k,k≤xs.length→∀j,uz xs n k≤j→j<k→xs.getD j 0>n
 |0,_,j,_,h=>by omega
 |k+1,hk,j,h1,h2=>by
  rw[uz]at h1
  split at h1
  ·rcases Nat.lt_or_ge j k with h|h
   ·exact aby xs n k (by omega) j h1 h
   ·obtain rfl:j=k:=by omega
    assumption
  ·omega
theorem abz (xs:List Int) (n:Int):∀k,0<uz xs n k→¬xs.getD (uz xs n k-1) 0>n
 |0,h=>by simp[uz]at h
 |k+1,h=>by
  rw[uz]at h⊢
  split
  ·rename_i hc;rw[if_pos hc]at h;exact abz xs n k h
  ·rename_i hc;simpa using hc
theorem xS (xs:List Int) (n:Int) (h:xs.Pairwise (·<·)):(sg xs n).Pairwise (·<·):=by
 unfold sg
 split
 ·exact h
 ·rename_i hn
  have hle:=abx xs n xs.length;have hgt:=aby xs n xs.length (Nat.le_refl _);have hat:=abz xs n xs.length;generalize uz xs n xs.length=j at hle hgt hat;have hp:=List.pairwise_iff_getElem.1 h
  have h1:∀a∈xs.take j,a<n:=fun a ha=>by
   obtain⟨i,hi,rfl⟩:=List.getElem_of_mem ha;rw[List.length_take]at hi;rw[List.getElem_take];have hj:=hat (by omega);rw[List.getD_eq_getElem?_getD,List.getElem?_eq_getElem (by omega),Option.getD_some]at hj
   have hne:xs[j-1]≠n:=fun e=>hn (e▸List.getElem_mem _)
   rcases Nat.lt_or_ge i (j-1)with hl|hg
   ·have:=hp i (j-1) (by omega) (by omega) hl;omega
   ·obtain rfl:i=j-1:=by omega
    omega
  have h2:∀b∈xs.drop j,n<b:=fun b hb=>by
   obtain⟨i,hi,rfl⟩:=List.getElem_of_mem hb;rw[List.length_drop]at hi;rw[List.getElem_drop];have:=hgt (j+i) (by omega) (by omega);rw[List.getD_eq_getElem?_getD,List.getElem?_eq_getElem (by omega),Option.getD_some]at this;exact this
  rw[List.pairwise_append,List.pairwise_append];refine⟨⟨h.sublist (List.take_sublist ..),List.pairwise_singleton ..,fun a ha b hb=>by rw[List.mem_singleton.1 hb];exact h1 a ha⟩,h.sublist (List.drop_sublist ..),fun a ha b hb=> ?_⟩;rcases List.mem_append.1 ha with ha|ha
  ·have:=h1 a ha;have:=h2 b hb;omega
  ·rw[List.mem_singleton.1 ha];exact h2 b hb
end Go.Proofs.YtlecajlnjmbilaaGreatDoor.Q
namespace Go.Proofs.YtlecajlnjmbilaaGreatDoor.Q
open Go.RowKit Go.Proofs.YtlecajlnjmbilaaGreatDoor.P Go.Proofs.ab.ao Go.Proofs.ab.aE Go.Proofs.ab.aI
theorem oV:∀(xs U:List Int),xs.Nodup→(∀x∈xs,x∈U)→xs.length≤U.length
 |[],_,_,_=>Nat.zero_le _
 |x::xs,U,h,hs=>by
  obtain⟨h1,h2⟩:=List.nodup_cons.1 h;have hx:=hs x (List.mem_cons_self ..);have:=oV xs (U.erase x) h2 (fun y hy=>(List.mem_erase_of_ne (fun(e:y=x)=>h1 (e▸hy))).2 (hs y (List.mem_cons_of_mem _ hy)));rw[List.length_erase_of_mem hx]at this;have:=List.length_pos_of_mem hx;simp only[List.length_cons]
  omega
theorem tm (xs U:List Int) (h:xs.Nodup) (hs:∀x∈xs,x∈U) (hl:U.length≤xs.length):∀y∈U,y∈xs:=fun y hy=>by
 apply Classical.byContradiction
 intro hn
 have:=oV (y::xs) U (List.nodup_cons.2 ⟨hn,h⟩) (fun z hz=>by
  rcases List.mem_cons.1 hz with rfl|hz
  ·exact hy
  ·exact hs z hz)
 simp only[List.length_cons]at this
 omega
theorem si {l:List Int}(h:l.Pairwise (·<·)):l.Nodup:=h.imp (fun h e=>by omega)
section
variable (ex:Int→Bool) (kids:Int→List Int)
def nH (out es:List Int):List Int:=es.foldl (fun o e=>if ex e=true then sg o e else o) out
def pl (xs:List Int):List Int:=nH ex xs (xs.flatMap kids)
def zf:Nat→List Int→List Int
 |0,xs=>xs
 |n+1,xs=>zf n (pl ex kids xs)
def vC (xs:List Int):Prop:=∀x∈xs,∀y∈kids x,ex y=true→y∈xs
theorem vD (es:List Int):∀(out:List Int) (x:Int),x∈nH ex out es↔x∈out∨(x∈es∧ex x=true):=by
 induction es with
 |nil=>intro out x;simp[nH]
 |cons e es ih=>
  intro out x
  show x∈nH ex (if ex e=true then sg out e else out) es↔_
  rw[ih]
  by_cases c:ex e=true
  ·rw[if_pos c,vB,List.mem_cons]
   constructor
   ·rintro((h|rfl)|⟨h,k⟩)
    ·exact .inl h
    ·exact .inr ⟨.inl rfl,c⟩
    ·exact .inr ⟨.inr h,k⟩
   ·rintro(h|⟨rfl|h,k⟩)
    ·exact .inl (.inl h)
    ·exact .inl (.inr rfl)
    ·exact .inr ⟨h,k⟩
  ·rw[if_neg c,List.mem_cons]
   constructor
   ·rintro(h|⟨h,k⟩)
    ·exact .inl h
    ·exact .inr ⟨.inr h,k⟩
   ·rintro(h|⟨rfl|h,k⟩)
    ·exact .inl h
    ·exact absurd k c
    ·exact .inr ⟨h,k⟩
theorem rb (es:List Int):∀(out:List Int),out.Pairwise (·<·)→(nH ex out es).Pairwise (·<·):=by
 induction es with
 |nil=>intro out h;exact h
 |cons e es ih=>
  intro out h
  show(nH ex (if ex e=true then sg out e else out) es).Pairwise (·<·)
  refine ih _ ?_
  split
  ·exact xS out e h
  ·exact h
theorem lX (xs:List Int) (y:Int):y∈pl ex kids xs↔y∈xs∨((∃x∈xs,y∈kids x)∧ex y=true):=by
 unfold pl;rw[vD,List.mem_flatMap]
theorem abA:∀n (xs:List Int),xs.Pairwise (·<·)→(zf ex kids n xs).Pairwise (·<·)
 |0,_,h=>h
 |n+1,xs,h=>abA n _ (rb ex _ _ h)
theorem xT:∀n (xs:List Int),∀x∈xs,x∈zf ex kids n xs
 |0,_,_,h=>h
 |n+1,xs,x,h=>xT n _ x ((lX ex kids xs x).2 (.inl h))
theorem abB (K:List Int) (hK:vC ex kids K):∀n (xs:List Int),(∀x∈xs,x∈K)→∀x∈zf ex kids n xs,x∈K
 |0,_,h=>h
 |n+1,xs,h=>abB K hK n _ (fun x hx=>by
  rcases(lX ex kids xs x).1 hx with hx|⟨⟨z,hz,hk⟩,he⟩
  ·exact h x hx
  ·exact hK z (h z hz) x hk he)
theorem xU (xs:List Int) (h:pl ex kids xs=xs):∀n,zf ex kids n xs=xs
 |0=>rfl
 |n+1=>by rw[zf,h];exact xU xs h n
theorem vE (U:List Int) (hU:∀y,ex y=true→y∈U):∀n (xs:List Int),xs.Pairwise (·<·)→(∀x∈xs,x∈U)→U.length≤xs.length+n→vC ex kids (zf ex kids n xs)
 |0,xs,h,hs,hl=>fun x _ y _ he=>tm xs U (si h) hs hl y (hU y he)
 |n+1,xs,h,hs,hl=>by
  by_cases c:pl ex kids xs=xs
  ·rw[xU ex kids xs c];intro x hx y hy he;rw[←c];exact(lX ex kids xs y).2 (.inr ⟨⟨x,hx,hy⟩,he⟩)
  ·refine vE U hU n _ (rb ex _ _ h) (fun x hx=> ?_) ?_
   ·rcases(lX ex kids xs x).1 hx with hx|⟨_,he⟩
    ·exact hs x hx
    ·exact hU x he
   ·have:xs.length<(pl ex kids xs).length:=by
     apply Classical.byContradiction
     intro hn;refine c (xn _ _ (rb ex _ _ h) h (fun x=>⟨fun hx=> ?_,fun hx=>(lX ex kids xs x).2 (.inl hx)⟩));exact tm xs (pl ex kids xs) (si h) (fun y hy=>(lX ex kids xs y).2 (.inl hy)) (by omega) x hx
    omega
theorem xo (U out:List Int) (hU:∀y,ex y=true→y∈U) (h1:ex 1=true) (hn:out.Nodup) (ho:vC ex kids out) (h1o:1∈out) (hmin:∀K:List Int,vC ex kids K→1∈K→∀x∈out,x∈K):
  nM out=zf ex kids U.length [1]:=by
 have hs:=vE ex kids U hU U.length [1] (List.pairwise_singleton ..) (fun x hx=>by rw[List.mem_singleton.1 hx];exact hU 1 h1) (by omega);refine xn _ _ (abw out hn) (abA ex kids _ _ (List.pairwise_singleton ..)) (fun x=> ?_);rw[yP];exact⟨hmin _ hs (xT ex kids _ _ 1 (List.mem_singleton.2 rfl)) x,abB ex kids out ho _ _ (fun y hy=>by rw[List.mem_singleton.1 hy];exact h1o) x⟩
end
end Go.Proofs.YtlecajlnjmbilaaGreatDoor.Q
namespace Go.Proofs.YtlecajlnjmbilaaGreatDoor.Q
open Go.RowKit Go.Proofs.YtlecajlnjmbilaaGreatDoor.P Go.Proofs.ab.ao Go.Proofs.ab.aE Go.Proofs.ab.aI
theorem rdI (xs:List Int) (i:Nat) (h:i<xs.length):rd xs (i:Int)=xs[i]:=by
 simp[rd,List.getD_eq_getElem?_getD,List.getElem?_eq_getElem h]
theorem abC (xs:List Int) (n:Int) (hl:xs.length≤9223372036854775807):Ev (fun k=>eS.f k xs n) (decide (n∈xs)):=by
 have key:=down (n:=xs.length) (P:=fun i=>Ev (fun k=>eS.l0 k xs n (i:Nat)) (decide (n∈xs.drop i))) (by
   apply aX
   simp only[eS.l0,List.drop_length]
   exact dv (by omega) (eW (Ev.now _) (by simp))) (fun i hi h=>by
   apply aX
   simp only[eS.l0,rdI xs i hi];rw[nn i xs.length hi hl,List.drop_eq_getElem_cons hi];refine bn (by omega) (bn (by omega) ?_)
   by_cases c:xs[i]=n
   ·exact bn c (eW (Ev.now _) (by simp[c]))
   ·exact dv c (eW h (decide_eq_decide.2 ⟨fun h=>List.mem_cons_of_mem _ h,fun h=>(List.mem_cons.1 h).resolve_left (fun e=>c e.symm)⟩)))
 simpa [eS.f]using key
theorem xp (xs:List Int) (n:Int) (hl:xs.length≤17592186044415):∀(j:Nat),j≤xs.length→∀c:Int,Ev (fun k=>di.l0 k n (xs.take j++[c]++xs.drop j) (j:Nat)) (xs.take (uz xs n j)++[n]++xs.drop (uz xs n j)):=by
 have hset:∀(j:Nat) (c m:Int),j≤xs.length→(xs.take j++[c]++xs.drop j).set j m=xs.take j++[m]++xs.drop j:=fun j c m hj=>by
  have ht:(xs.take j).length=j:=by rw[List.length_take];omega
  rw[List.append_assoc,List.set_append_right _ _ (by omega),ht,Nat.sub_self,List.append_assoc];rfl
 have hlen:∀(j:Nat) (c:Int),j≤xs.length→(xs.take j++[c]++xs.drop j).length=xs.length+1:=fun j c hj=>by
  simp only[List.length_append,List.length_take,List.length_drop,List.length_singleton];omega
 intro j
 induction j with
 |zero=>
  intro hj c
  apply aX
  simp only[di.l0,hlen 0 c hj,Int.toNat_natCast,hset 0 c n hj,uz];exact dv (by omega) (bn (by omega) (bn (by omega) (Ev.now _)))
 |succ j ih=>
  intro hj c
  have hw:wrap64 (((j+1:Nat):Int)-1)=(j:Nat):=by rw[show((j+1:Nat):Int)-1=(j:Nat) by omega];exact lC (by omega) (by omega)
  have hr:rd (xs.take (j+1)++[c]++xs.drop (j+1)) (j:Nat)=xs[j]:=by
   rw[rdI _ j (by rw[hlen _ _ hj];omega)];rw[List.getElem_append_left (by simp only[List.length_append,List.length_take,List.length_singleton];omega),List.getElem_append_left (by rw[List.length_take];omega),List.getElem_take]
  apply aX
  simp only[di.l0,hw,hr,hlen _ c hj,Int.toNat_natCast,hset (j+1) c _ hj];refine bn (by omega) (bn (by omega) (bn (by omega) ?_))
  have hg:xs.getD j 0=xs[j]:=by rw[List.getD_eq_getElem?_getD,List.getElem?_eq_getElem (by omega)];rfl
  by_cases cc:xs[j]>n
  ·refine bn cc (bn (by omega) (bn (by omega) ?_))
   have e:xs.take (j+1)++[xs[j]]++xs.drop (j+1)=xs.take j++[xs[j]]++xs.drop j:=by
    rw[List.take_succ_eq_append_getElem (by omega),List.append_assoc,List.append_assoc,List.append_assoc,List.drop_eq_getElem_cons (i:=j) (by omega)];rfl
   rw[e,uz,if_pos (by rw[hg];exact cc)];exact ih (by omega) _
  ·refine dv cc (bn (by omega) (bn (by omega) (eW (Ev.now _) ?_)));rw[uz,if_neg (by rw[hg];exact cc)]
theorem abD (xs:List Int) (n:Int) (hl:xs.length≤17592186044414):Ev (fun k=>di.f k xs n) (sg xs n):=by
 unfold di.f;refine Ev.bind (abC xs n (by omega)) ?_
 by_cases c:n∈xs
 ·refine bn (by simp[c]) (eW (Ev.now _) ?_);unfold sg;rw[if_pos c]
 ·refine dv (by simp[c]) ?_;simp only[Option.bind_some,List.nil_append,List.length_nil];refine bn (by omega) (bn (by omega) ?_);have h:=xp xs n (by omega) xs.length (Nat.le_refl _) n;rw[List.take_length,List.drop_length,List.append_nil]at h
  have hw:wrap64 (((xs++[n]).length:Int)-1)=(xs.length:Nat):=by
   rw[List.length_append,List.length_singleton,show((xs.length+1:Nat):Int)-1=(xs.length:Nat) by omega];exact lC (by omega) (by omega)
  rw[hw];refine eW h ?_;unfold sg;rw[if_neg c]
end Go.Proofs.YtlecajlnjmbilaaGreatDoor.Q
namespace Go.Proofs.YtlecajlnjmbilaaGreatDoor.Q
open Go.RowKit Go.Proofs.YtlecajlnjmbilaaGreatDoor.P Go.Proofs.ab.ao Go.Proofs.ab.aE Go.Proofs.ab.aI
def jt (l:List aZ) (n:Int):List Int:=if fc l n=true∧(fg l n).f1=2 then(fg l n).f4.map (·.f1)else []
theorem xq (l:List aZ) (n:Int) (h:fc l n=true):n∈l.map (·.f0):=by
 apply Classical.byContradiction
 intro hn;have:=uS n l 0 (fun x hx e=>hn (List.mem_map.2 ⟨x,hx,e⟩));unfold fc at h;rw[this]at h;simp at h
structure p_ (l:List aZ) (xs:List Int):Prop where
 lt:xs.Pairwise (·<·)
 ex:∀x∈xs,fc l x=true
theorem p_.len {l:List aZ}{xs:List Int}(h:p_ l xs):xs.length≤l.length:=by
 have:=oV xs (l.map (·.f0)) (si h.lt) (fun x hx=>xq l x (h.ex x hx))
 rwa [List.length_map]at this
theorem p_.put {l:List aZ}{xs:List Int}(h:p_ l xs) (n:Int) (hn:fc l n=true):p_ l (sg xs n):=
 ⟨xS xs n h.lt,fun x hx=>by rcases(vB xs n x).1 hx with hx|rfl;exact h.ex x hx;exact hn⟩
theorem yQ (l:List aZ) (nx:Int) (xs:List Int) (i:Int) (x:aZ) (R:List Int) (hl:l.length≤1048576) (he:x.f4.length≤1048576) (hk:x.f1=2)
  (fin:List Int) (hfin:Ev (fun k=>ay.l0 k xs fin (wrap64 (i+1)) l nx) R):
  ∀(m:Nat),m≤x.f4.length→∀out,p_ l out→nH (fc l) out ((x.f4.drop (x.f4.length-m)).map (·.f1))=fin→Ev (fun k=>ay.l1 k xs out i true ((x.f4.length-m:Nat):Int) l nx x.f0 x.f1 x.f2 x.f3 x.f4 x.f5) R:=by
 intro m
 induction m with
 |zero=>
  intro _ out ho hf;rw[Nat.sub_zero,List.drop_length]at hf;have hf':out=fin:=hf;subst hf'
  apply aX
  simp only[ay.l1,Nat.sub_zero];refine dv (by omega) ?_
  apply aX
  simp only[ay.j2];exact dv (by decide) hfin
 |succ m ih=>
  intro hm out ho hf
  have hj:x.f4.length-(m+1)<x.f4.length:=by omega
  have hrd:al x.f4 ((x.f4.length-(m+1):Nat):Int)=x.f4[x.f4.length-(m+1)]:=getD_at x.f4 _ _ hj;rw[List.drop_eq_getElem_cons hj,show x.f4.length-(m+1)+1=x.f4.length-m by omega]at hf
  apply aX
  simp only[ay.l1];refine bn (by omega) (bn trivial ?_)
  apply aX
  simp only[ay.j2,hrd];rw[nn _ x.f4.length hj (by omega),show x.f4.length-(m+1)+1=x.f4.length-m by omega];refine bn (by simp[hk]) (bn (by omega) (bn (by omega) (Ev.bind (oO l nx _ hl) ?_)))
  by_cases c:0≤cC x.f4[x.f4.length-(m+1)].f1 l 0
  ·have hx:fc l x.f4[x.f4.length-(m+1)].f1=true:=decide_eq_true c;have hlen:=ho.len;refine bn c (Ev.bind (abD out _ (by omega)) (ih (by omega) _ (ho.put _ hx) ?_));rw[←hf];simp only[nH,List.map_cons,List.foldl_cons,if_pos hx]
  ·have hx:¬fc l x.f4[x.f4.length-(m+1)].f1=true:=by unfold fc;simpa using c
   refine dv c (ih (by omega) _ ho ?_);rw[←hf];simp only[nH,List.map_cons,List.foldl_cons,if_neg hx]
theorem yR (l:List aZ) (nx:Int) (xs:List Int) (i:Int) (x:aZ) (ok:Bool) (R out:List Int) (hno:¬(ok=true∧x.f1=2)) (hfin:Ev (fun k=>ay.l0 k xs out (wrap64 (i+1)) l nx) R):
  Ev (fun k=>ay.l1 k xs out i ok 0 l nx x.f0 x.f1 x.f2 x.f3 x.f4 x.f5) R:=by
 apply aX
 simp only[ay.l1];refine wO (fun _=>wO (fun hk=> ?_) (fun _=> ?_)) (fun _=> ?_)
 ·apply aX
  simp only[ay.j2];exact dv (by have:x.f1≠2:=fun e=>hno ⟨hk,e⟩;simpa using this) hfin
 ·apply aX
  simp only[ay.j2];exact dv (by decide) hfin
 ·apply aX
  simp only[ay.j2];exact dv (by decide) hfin
theorem vF (ex:Int→Bool) (out a b:List Int):nH ex out (a++b)=nH ex (nH ex out a) b:=List.foldl_append
theorem p_.add {l:List aZ}{out:List Int}(h:p_ l out) (es:List Int):p_ l (nH (fc l) out es):=
 ⟨rb _ _ _ h.lt,fun x hx=>by rcases(vD (fc l) es out x).1 hx with hx|⟨_,hx⟩;exact h.ex x hx;exact hx⟩
theorem yS (l:List aZ) (nx:Int) (xs:List Int) (hl:l.length≤1048576) (hs:∀x∈l,gu x) (hx:p_ l xs):Ev (fun k=>ay.f k l nx xs) (pl (fc l) (jt l) xs):=by
 have hlen:=hx.len
 have key:=down (n:=xs.length) (P:=fun i=>Ev (fun k=>ay.l0 k xs (nH (fc l) xs ((xs.take i).flatMap (jt l))) (i:Nat) l nx) (pl (fc l) (jt l) xs)) (by
   apply aX
   simp only[ay.l0,List.take_length]
   exact dv (by omega) (Ev.now _)) (fun i hi h=>by
   have hrd:=rdI xs i hi
   have hst:nH (fc l) xs ((xs.take (i+1)).flatMap (jt l))=nH (fc l) (nH (fc l) xs ((xs.take i).flatMap (jt l))) (jt l xs[i]):=by
    rw[List.take_succ_eq_append_getElem hi,List.flatMap_append,vF];simp
   rw[hst]at h;have ho:=hx.add ((xs.take i).flatMap (jt l));generalize nH (fc l) xs ((xs.take i).flatMap (jt l))=out at h ho⊢
   apply aX
   simp only[ay.l0,hrd];refine bn (by omega) (bn (by omega) (Ev.bind (pY l nx xs[i] hl hs) ?_));have hsm:=jh l xs[i] hs;rw[←nn i xs.length hi (by omega)]at h;dsimp only
   by_cases c:fc l xs[i]=true∧(fg l xs[i]).f1=2
   ·have hk:jt l xs[i]=(fg l xs[i]).f4.map (·.f1):=if_pos c;rw[hk]at h;have:=yQ l nx xs i (fg l xs[i]) _ hl hsm.e c.2 _ h _ (Nat.le_refl _) out ho (by rw[Nat.sub_self,List.drop_zero]);rw[Nat.sub_self]at this;rw[c.1];exact this
   ·have hk:jt l xs[i]=[]:=if_neg c;rw[hk]at h
    exact yR l nx xs i (fg l xs[i]) _ _ out c h)
 simpa [ay.f,nH]using key
theorem p_.next {l:List aZ}{xs:List Int}(h:p_ l xs):p_ l (pl (fc l) (jt l) xs):=h.add _
theorem uv (l:List aZ) (nx:Int) (hl:l.length≤1048576) (hs:∀x∈l,gu x):Ev (fun k=>ef.f k l nx) (if fc l 1=true then zf (fc l) (jt l) l.length [1]else []):=by
 unfold ef.f;simp only[Option.bind_some];refine Ev.bind (oO l nx 1 hl) ?_
 by_cases c:cC 1 l 0<0
 ·have:¬fc l 1=true:=by unfold fc;simp;omega
  exact bn c (eW (Ev.now _) (by rw[if_neg this]))
 ·have h1:fc l 1=true:=decide_eq_true (by omega);rw[if_pos h1];refine dv c (bn (by simp) ?_)
  have key:∀(m:Nat),m≤l.length→∀xs,p_ l xs→Ev (fun k=>ef.l0 k xs ((l.length-m:Nat):Int) l nx) (zf (fc l) (jt l) m xs):=by
   intro m
   induction m with
   |zero=>
    intro _ xs _
    apply aX
    simp only[ef.l0];exact dv (by omega) (Ev.now _)
   |succ m ih=>
    intro hm xs hx
    apply aX
    simp only[ef.l0];refine bn (by omega) (Ev.bind (yS l nx xs hl hs hx) ?_);rw[nn _ l.length (by omega) (by omega),show l.length-(m+1)+1=l.length-m by omega];exact ih (by omega) _ hx.next
  have:=key l.length (Nat.le_refl _) [1] ⟨List.pairwise_singleton ..,fun x hx=>by rw[List.mem_singleton.1 hx];exact h1⟩;rw[Nat.sub_self]at this;exact this
end Go.Proofs.YtlecajlnjmbilaaGreatDoor.Q
namespace Go.Proofs.YtlecajlnjmbilaaGreatDoor.Q
open Go.RowKit Go.Proofs.YtlecajlnjmbilaaGreatDoor.P Go.Proofs.ab.ao Go.Proofs.ab.aE Go.Proofs.ab.aI
theorem vG (l:List aZ) (nx:Int) (out:List Int) (e:List db) (R:List Int) (he:e.length≤1048576):
  ∀(m:Nat),m≤e.length→∀q,q.length+m<17592186044416→Ev (fun k=>aV.l0 k out (q++(e.drop (e.length-m)).map (·.f1)) l nx) R→Ev (fun k=>aV.l1 k out q e (e.length:Int) ((e.length-m:Nat):Int) l nx) R:=by
 intro m
 induction m with
 |zero=>
  intro _ q _ h;rw[Nat.sub_zero,List.drop_length,List.map_nil,List.append_nil]at h
  apply aX
  simp only[aV.l1,Nat.sub_zero];exact dv (by omega) h
 |succ m ih=>
  intro hm q hq h
  have hj:e.length-(m+1)<e.length:=by omega
  have hrd:al e ((e.length-(m+1):Nat):Int)=e[e.length-(m+1)]:=getD_at e _ _ hj;rw[List.drop_eq_getElem_cons hj,show e.length-(m+1)+1=e.length-m by omega,List.map_cons]at h
  apply aX
  simp only[aV.l1,hrd];rw[nn _ e.length hj (by omega),show e.length-(m+1)+1=e.length-m by omega];refine bn (by omega) (bn (by omega) (bn (by omega) (bn (by omega) (ih (by omega) _ (by simp only[List.length_append,List.length_singleton];omega) ?_))));rw[List.append_assoc];exact h
structure sj (l:List aZ) (out q:List Int):Prop where
 nd:out.Nodup
 ex:∀x∈out,fc l x=true
 sh:∀x∈out,∀y∈jt l x,fc l y=true→y∈out∨y∈q
 one:fc l 1=true→1∈out∨1∈q
 mi:∀K:List Int,vC (fc l) (jt l) K→(fc l 1=true→1∈K)→(∀x∈out,x∈K)∧∀y∈q,fc l y=true→y∈K
 ln:q.length≤1+out.length*1048576
theorem sj.len {l:List aZ}{out q:List Int}(h:sj l out q):out.length≤l.length:=by
 have:=oV out (l.map (·.f0)) h.nd (fun x hx=>xq l x (h.ex x hx))
 rwa [List.length_map]at this
theorem yT (l:List aZ) (n:Int) (hs:∀x∈l,gu x):(jt l n).length≤1048576:=by
 have h:=(jh l n hs).e;unfold jt
 split
 ·rwa [List.length_map]
 ·simp
theorem sj.old {l:List aZ}{out q:List Int}{n:Int}(h:sj l out (n::q)) (ho:¬(fc l n=true∧n∉out)):sj l out q:=by
 have hn:fc l n=true→n∈out:=fun e=>Classical.byContradiction fun c=>ho ⟨e,c⟩
 refine⟨h.nd,h.ex,fun x hx y hy he=> ?_,fun e=> ?_,fun K hK h1=>⟨(h.mi K hK h1).1,fun y hy=>(h.mi K hK h1).2 y (List.mem_cons_of_mem _ hy)⟩,by have:=h.ln;simp only[List.length_cons]at this;omega⟩
 ·rcases h.sh x hx y hy he with a|a
  ·exact .inl a
  ·rcases List.mem_cons.1 a with rfl|a
   ·exact .inl (hn he)
   ·exact .inr a
 ·rcases h.one e with a|a
  ·exact .inl a
  ·rcases List.mem_cons.1 a with a|a
   ·exact .inl (a▸hn (a▸e))
   ·exact .inr a
theorem sj.new {l:List aZ}{out q:List Int}{n:Int}(hs:∀x∈l,gu x) (h:sj l out (n::q)) (he:fc l n=true) (hn:n∉out):sj l (out++[n]) (q++jt l n):=by
 have hk:=yT l n hs;refine⟨?_,fun x hx=> ?_,fun x hx y hy hey=> ?_,fun e=> ?_,fun K hK h1=>⟨fun x hx=> ?_,fun y hy hey=> ?_⟩,?_⟩
 ·rw[List.nodup_append];exact⟨h.nd,by simp,fun a ha b hb=>by rw[List.mem_singleton.1 hb];exact fun e=>hn (e▸ha)⟩
 ·rcases List.mem_append.1 hx with hx|hx
  ·exact h.ex x hx
  ·rw[List.mem_singleton.1 hx];exact he
 ·rcases List.mem_append.1 hx with hx|hx
  ·rcases h.sh x hx y hy hey with a|a
   ·exact .inl (List.mem_append.2 (.inl a))
   ·rcases List.mem_cons.1 a with rfl|a
    ·exact .inl (List.mem_append.2 (.inr (List.mem_singleton.2 rfl)))
    ·exact .inr (List.mem_append.2 (.inl a))
  ·rw[List.mem_singleton.1 hx]at hy;exact .inr (List.mem_append.2 (.inr hy))
 ·rcases h.one e with a|a
  ·exact .inl (List.mem_append.2 (.inl a))
  ·rcases List.mem_cons.1 a with a|a
   ·exact .inl (List.mem_append.2 (.inr (List.mem_singleton.2 a)))
   ·exact .inr (List.mem_append.2 (.inl a))
 ·rcases List.mem_append.1 hx with hx|hx
  ·exact(h.mi K hK h1).1 x hx
  ·rw[List.mem_singleton.1 hx];exact(h.mi K hK h1).2 n (List.mem_cons_self ..) he
 ·rcases List.mem_append.1 hy with hy|hy
  ·exact(h.mi K hK h1).2 y (List.mem_cons_of_mem _ hy) hey
  ·exact hK n ((h.mi K hK h1).2 n (List.mem_cons_self ..) he) y hy hey
 ·have:=h.ln;simp only[List.length_append,List.length_cons,List.length_singleton,List.length_nil]at this⊢
  omega
theorem ni (l:List aZ) (nx:Int) (hl:l.length≤1048576) (hs:∀x∈l,gu x) (out q:List Int) (n:Int) (R:List Int) (hi:sj l out (n::q))
  (hold:¬(fc l n=true∧n∉out)→Ev (fun k=>aV.l0 k out q l nx) R) (hnew:fc l n=true→n∉out→Ev (fun k=>aV.l0 k (out++[n]) (q++jt l n) l nx) R):Ev (fun k=>aV.l0 k out (n::q) l nx) R:=by
 have hlen:=hi.len;have hln:=hi.ln;simp only[List.length_cons]at hln;have hrd:rd (n::q) 0=n:=rfl;have hdr:(n::q).drop (1:Int).toNat=q:=rfl;have hsm:=jh l n hs
 apply aX
 simp only[aV.l0,hrd,hdr,Option.bind_some];refine bn (by simp only[List.length_cons];omega) (bn (by simp only[List.length_cons];omega) (bn (by simp only[List.length_cons];omega) (Ev.bind (nG l nx n hl hs) ?_)));dsimp only
 by_cases c:fc l n=true
 ·have hc:eg.f out n=some (out.contains n):=by unfold eg.f;rw[if_pos (by omega)]
  refine bn c ?_;simp only[hc,Option.bind_some]
  by_cases cc:n∈out
  ·have:out.contains n=true:=by simpa using cc
   rw[this]
   apply aX
   simp only[aV.j1];exact bn trivial (hold (fun h=>h.2 cc))
  ·have:out.contains n=false:=by simpa using cc
   rw[this];have h:=hnew c cc
   apply aX
   simp only[aV.j1,Option.bind_some];refine dv (by decide) (bn (by omega) ?_)
   by_cases hk:(fg l n).f1=2
   ·have e:jt l n=(fg l n).f4.map (·.f1):=if_pos ⟨c,hk⟩;rw[e]at h;refine bn hk ?_;have hln2:out.length*1048576≤1048576*1048576:=Nat.mul_le_mul_right _ (by omega);have he:=hsm.e;have:=vG l nx (out++[n]) (fg l n).f4 R hsm.e _ (Nat.le_refl _) q (by omega) (by rw[Nat.sub_self,List.drop_zero];exact h);rw[Nat.sub_self]at this;exact this
   ·have e:jt l n=[]:=if_neg (fun h=>hk h.2);rw[e,List.append_nil]at h;exact dv hk h
 ·refine dv c ?_
  apply aX
  simp only[aV.j1];exact bn trivial (hold (fun h=>c h.1))
theorem sK (l:List aZ) (nx:Int) (hl:l.length≤1048576) (hs:∀x∈l,gu x):∀(d:Nat) (q out:List Int),l.length-out.length≤d→sj l out q→∃o,Ev (fun k=>aV.l0 k out q l nx) (nM o)∧sj l o []:=by
 intro d
 induction d with
 |zero=>
  intro q
  induction q with
  |nil=>
   intro out _ h;refine⟨out,?_,h⟩;have:=h.len
   apply aX
   simp only[aV.l0];exact dv (by simp) (bn (by omega) (Ev.now _))
  |cons n q ihq=>
   intro out hd h
   by_cases c:fc l n=true∧n∉out
   ·have:=(h.new hs c.1 c.2).len;simp only[List.length_append,List.length_singleton]at this
    omega
   ·obtain⟨o,ho,hi⟩:=ihq out hd (h.old c);exact⟨o,ni l nx hl hs out q n _ h (fun _=>ho) (fun a b=>absurd ⟨a,b⟩ c),hi⟩
 |succ d ih=>
  intro q
  induction q with
  |nil=>
   intro out _ h;refine⟨out,?_,h⟩;have:=h.len
   apply aX
   simp only[aV.l0];exact dv (by simp) (bn (by omega) (Ev.now _))
  |cons n q ihq=>
   intro out hd h
   by_cases c:fc l n=true∧n∉out
   ·obtain⟨o,ho,hi⟩:=ih (q++jt l n) (out++[n]) (by simp only[List.length_append,List.length_singleton];omega) (h.new hs c.1 c.2);exact⟨o,ni l nx hl hs out q n _ h (fun a=>absurd c a) (fun _ _=>ho),hi⟩
   ·obtain⟨o,ho,hi⟩:=ihq out hd (h.old c);exact⟨o,ni l nx hl hs out q n _ h (fun _=>ho) (fun a b=>absurd ⟨a,b⟩ c),hi⟩
theorem uw (l:List aZ) (nx:Int) (hl:l.length≤1048576) (hs:∀x∈l,gu x):Ev (fun k=>aV.f k l nx) (if fc l 1=true then zf (fc l) (jt l) l.length [1]else []):=by
 obtain⟨o,ho,hi⟩:=sK l nx hl hs l.length [1] [] (by omega) ⟨List.nodup_nil,(fun x hx=>by cases hx),(fun x hx=>by cases hx),(fun _=> .inr (List.mem_singleton.2 rfl)),(fun K hK h1=>⟨(fun x hx=>by cases hx),(fun y hy he=>by rw[List.mem_singleton.1 hy]at he⊢;exact h1 he)⟩),by simp⟩;unfold aV.f;refine eW ho ?_
 by_cases c:fc l 1=true
 ·rw[if_pos c];have h1o:1∈o:=(hi.one c).resolve_right (by simp);have:=xo (fc l) (jt l) (l.map (·.f0)) o (fun y hy=>xq l y hy) c hi.nd (fun x hx y hy he=>(hi.sh x hx y hy he).resolve_right (by simp)) h1o (fun K hK h1=>(hi.mi K hK (fun _=>h1)).1);rw[List.length_map]at this;exact this
 ·rw[if_neg c];have:o=[]:=List.eq_nil_iff_forall_not_mem.2 (fun x hx=>by have:=(hi.mi [] (fun x hx=>by cases hx) (fun e=>absurd e c)).1 x hx;cases this);rw[this];exact List.eq_nil_of_length_eq_zero (by rw[lR];rfl)
end Go.Proofs.YtlecajlnjmbilaaGreatDoor.Q
namespace Go.Proofs.YtlecajlnjmbilaaGreatDoor.Q
open Go.RowKit Go.Proofs.YtlecajlnjmbilaaGreatDoor.P Go.Proofs.ab.ao Go.Proofs.ab.aE Go.Proofs.ab.aI
theorem sm (n:Int) (l:List aZ) (h:∀x∈l,x.f4.length≤1048576):eZ n l≤l.length*1048576:=by
 induction l with
 |nil=>simp[eZ]
 |cons x m ih=>
  have e:hO n x≤1048576:=by
   have:=h x (List.mem_cons_self ..);unfold hO
   split
   ·have:=List.length_filter_le (fun y:db=>decide (y.f1=n)) x.f4;unfold fK;omega
   ·omega
  have:=ih (fun y hy=>h y (List.mem_cons_of_mem _ hy));simp only[eZ,List.map_cons,List.sum_cons,List.length_cons]at this⊢
  omega
def nI (l:List aZ) (e:List db):Bool:=e.all fun x=>fc l x.f1
def qH (l xs:List aZ):Bool:=xs.all fun x=>decide (x.f2=(eZ x.f0 l:Int))&&nI l x.f4
def sn (l:List aZ):List Int:=if fc l 1=true then zf (fc l) (jt l) l.length [1]else []
def nJ (l:List aZ) (nx:Int):Bool:=ph l nx&&(decide ((sn l).length=l.length)&&qH l l)
theorem so (l:List aZ) (i:Nat) (hi:i<l.length):qH l (l.drop i)=(decide (l[i].f2=(eZ l[i].f0 l:Int))&&nI l l[i].f4&&qH l (l.drop (i+1))):=by
 unfold qH;rw[List.drop_eq_getElem_cons hi,List.all_cons]
theorem qI (l:List aZ) (e:List db) (j:Nat) (hj:j<e.length):nI l (e.drop j)=(fc l e[j].f1&&nI l (e.drop (j+1))):=by
 unfold nI;rw[List.drop_eq_getElem_cons hj,List.all_cons]
theorem sq (l:List aZ) (nx i:Int) (x:aZ) (Z:Bool) (hl:l.length≤1048576) (he:x.f4.length≤1048576) (hfin:Ev (fun k=>aH.l0 k (wrap64 (i+1)) l nx) Z):
  Ev (fun k=>aH.l1 k i 0 l nx x.f0 x.f1 x.f2 x.f3 x.f4 x.f5) (nI l x.f4&&Z):=by
 have key:=down (n:=x.f4.length) (P:=fun j=>Ev (fun k=>aH.l1 k i (j:Nat) l nx x.f0 x.f1 x.f2 x.f3 x.f4 x.f5) (nI l (x.f4.drop j)&&Z)) (by
   apply aX
   simp only[aH.l1,List.drop_length]
   exact dv (by omega) hfin) (fun j hj h=>by
   have hrd:al x.f4 (j:Int)=x.f4[j]:=getD_at x.f4 _ j hj
   apply aX
   simp only[aH.l1,hrd];rw[nn j x.f4.length hj (by omega),qI l x.f4 j hj];refine bn (by omega) (bn (by omega) (Ev.bind (oO l nx _ hl) ?_))
   by_cases c:cC x.f4[j].f1 l 0<0
   ·refine bn c (eW (Ev.now _) ?_);unfold fc;rw[decide_eq_false (by omega)];rfl
   ·refine dv c (eW h ?_)
    unfold fc;rw[decide_eq_true (by omega)];rfl)
 simpa using key
theorem sr (l:List aZ) (nx:Int) (hl:l.length≤1048576) (hs:∀x∈l,x.f4.length≤1048576):Ev (fun k=>aH.l0 k 0 l nx) (qH l l):=by
 have key:=down (n:=l.length) (P:=fun i=>Ev (fun k=>aH.l0 k (i:Nat) l nx) (qH l (l.drop i))) (by
   apply aX
   simp only[aH.l0,List.drop_length]
   exact dv (by omega) (Ev.now _)) (fun i hi h=>by
   have hrd:af l (i:Int)=l[i]:=getD_at l _ i hi;have hx:=hs _ (List.getElem_mem hi);have hu:=sm l[i].f0 l hs;have hu2:l.length*1048576≤1048576*1048576:=Nat.mul_le_mul_right _ hl;rw[←nn i l.length hi (by omega)]at h
   apply aX
   simp only[aH.l0,hrd];rw[so l i hi];refine bn (by omega) (bn (by omega) (Ev.bind (xc l nx _ hl hs (by omega)) ?_))
   by_cases c:((eZ l[i].f0 l:Nat):Int)=l[i].f2
   ·refine bn c (eW (sq l nx i l[i] _ hl hx h) ?_);rw[decide_eq_true c.symm,Bool.true_and]
   ·refine dv c (eW (Ev.now _) ?_)
    rw[decide_eq_false (fun e=>c e.symm)];rfl)
 simpa using key
theorem vH (l:List aZ) (nx:Int) (hl:l.length≤1048576) (hs:∀x∈l,pA x):Ev (fun k=>aH.f k l nx) (nJ l nx):=by
 have hA:∀x∈l,gu x:=fun x hx=>⟨(hs x hx).d,(hs x hx).e,(hs x hx).t⟩
 unfold aH.f nJ;refine Ev.bind (xa l nx hl hs) ?_
 by_cases c1:ph l nx=true
 ·refine bn c1 (Ev.bind (uv l nx hl hA) ?_);rw[c1,Bool.true_and]
  change Ev (fun k=>aH.j0 k (((sn l).length:Int) !=(l.length:Int)) l nx) _
  apply aX
  simp only[aH.j0]
  by_cases c2:(sn l).length=l.length
  ·refine dv (by simp[c2]) (eW (sr l nx hl (fun x hx=>(hs x hx).e)) ?_);rw[decide_eq_true c2,Bool.true_and]
  ·refine bn (by simp;omega) (eW (Ev.now _) ?_);rw[decide_eq_false c2];rfl
 ·refine dv c1 ?_
  apply aX
  simp only[aH.j0];refine bn trivial (eW (Ev.now _) ?_);rw[show ph l nx=false by simpa using c1];rfl
theorem su (l:List aZ) (nx i:Int) (e:List db) (Z:Bool) (hl:l.length≤1048576) (he:e.length≤1048576) (hfin:Ev (fun k=>bd.l0 k l (l.length:Int) (wrap64 (i+1)) l nx) Z):
  Ev (fun k=>bd.l1 k l (l.length:Int) i e (e.length:Int) 0 l nx) (nI l e&&Z):=by
 have key:=down (n:=e.length) (P:=fun j=>Ev (fun k=>bd.l1 k l (l.length:Int) i e (e.length:Int) (j:Nat) l nx) (nI l (e.drop j)&&Z)) (by
   apply aX
   simp only[bd.l1,List.drop_length]
   exact dv (by omega) hfin) (fun j hj h=>by
   have hrd:al e (j:Int)=e[j]:=getD_at e _ j hj
   apply aX
   simp only[bd.l1,hrd];rw[nn j e.length hj (by omega),qI l e j hj]
   have hp:Ev (fun k=>ez.f k l nx e[j].f1) (cC e[j].f1 l 0):=by unfold ez.f;exact bn (by omega) (Ev.now _)
   refine bn (by omega) (bn (by omega) (bn (by omega) (Ev.bind hp ?_)))
   by_cases c:cC e[j].f1 l 0<0
   ·refine bn c (eW (Ev.now _) ?_);unfold fc;rw[decide_eq_false (by omega)];rfl
   ·refine dv c (eW h ?_)
    unfold fc;rw[decide_eq_true (by omega)];rfl)
 simpa using key
theorem sv (l:List aZ) (nx:Int) (hl:l.length≤1048576) (hs:∀x∈l,x.f4.length≤1048576):Ev (fun k=>bd.l0 k l (l.length:Int) 0 l nx) (qH l l):=by
 have key:=down (n:=l.length) (P:=fun i=>Ev (fun k=>bd.l0 k l (l.length:Int) (i:Nat) l nx) (qH l (l.drop i))) (by
   apply aX
   simp only[bd.l0,List.drop_length]
   exact dv (by omega) (Ev.now _)) (fun i hi h=>by
   have hrd:af l (i:Int)=l[i]:=getD_at l _ i hi;have hx:=hs _ (List.getElem_mem hi);have hu:=sm l[i].f0 l hs;have hu2:l.length*1048576≤1048576*1048576:=Nat.mul_le_mul_right _ hl;rw[←nn i l.length hi (by omega)]at h
   apply aX
   simp only[bd.l0,hrd];rw[so l i hi];refine bn (by omega) (bn (by omega) (bn (by omega) (Ev.bind (xd l nx _ hl hs (by omega)) ?_)))
   by_cases c:l[i].f2=((eZ l[i].f0 l:Nat):Int)
   ·refine bn c (eW (su l nx i l[i].f4 _ hl hx h) ?_);rw[decide_eq_true c,Bool.true_and]
   ·refine dv c (eW (Ev.now _) ?_)
    rw[decide_eq_false c];rfl)
 simpa using key
theorem vI (l:List aZ) (nx:Int) (hl:l.length≤1048576) (hs:∀x∈l,pA x):Ev (fun k=>bd.f k l nx) (nJ l nx):=by
 have hA:∀x∈l,gu x:=fun x hx=>⟨(hs x hx).d,(hs x hx).e,(hs x hx).t⟩
 unfold bd.f nJ;refine Ev.bind (xb l nx hl hs) ?_
 by_cases c1:ph l nx=true
 ·refine bn c1 (Ev.bind (uw l nx hl hA) ?_);rw[c1,Bool.true_and]
  change Ev (fun k=>bd.j0 k (((sn l).length:Int) !=(l.length:Int)) l nx) _
  apply aX
  simp only[bd.j0]
  by_cases c2:(sn l).length=l.length
  ·refine dv (by simp[c2]) (eW (sv l nx hl (fun x hx=>(hs x hx).e)) ?_);rw[decide_eq_true c2,Bool.true_and]
  ·refine bn (by simp;omega) (eW (Ev.now _) ?_);rw[decide_eq_false c2];rfl
 ·refine dv c1 ?_
  apply aX
  simp only[bd.j0];refine bn trivial (eW (Ev.now _) ?_);rw[show ph l nx=false by simpa using c1];rfl
end Go.Proofs.YtlecajlnjmbilaaGreatDoor.Q
namespace Go.Proofs.YtlecajlnjmbilaaGreatDoor.Q
open Go.RowKit Go.Proofs.YtlecajlnjmbilaaGreatDoor.P Go.Proofs.ab.ao Go.Proofs.ab.aE Go.Proofs.ab.aI
theorem lz (l:List aZ) (nx:Int) (hl:l.length≤1048576) (hs:∀x∈l,gu x):Ev (fun k=>cl.f k l nx) (l,nx):=by
 have key:=down (n:=l.length) (P:=fun i=>Ev (fun k=>cl.l0 k l (l.length:Int) (i:Nat) (l.take i) nx) (l,nx)) (by
   apply aX
   simp only[cl.l0,List.take_length]
   exact dv (by omega) (Ev.now _)) (fun i hi h=>by
   have hrd:af l (i:Int)=l[i]:=getD_at l _ i hi
   apply aX
   simp only[cl.l0,hrd,rY l[i] (hs _ (List.getElem_mem hi)),Option.bind_some];rw[nn i l.length hi (by omega)];refine bn (by omega) (bn (by omega) (bn (by omega) (bn (by rw[List.length_take];omega) ?_)));rw[List.take_succ_eq_append_getElem hi]at h
   exact h)
 simpa [cl.f]using key
theorem yU (l:List aZ) (nx ino:Int) (hl:l.length≤1048576) (hs:∀x∈l,gu x):Ev (fun k=>b_.f k l nx ino) (kW ino l,nx):=by
 have key:=down (n:=l.length) (P:=fun i=>Ev (fun k=>b_.l0 k ino (i:Nat) l nx (kW ino (l.take i)) nx) (kW ino l,nx)) (by
   apply aX
   simp only[b_.l0,List.take_length]
   exact dv (by omega) (Ev.now _)) (fun i hi h=>by
   have hrd:af l (i:Int)=l[i]:=getD_at l _ i hi;have hle:(kW ino (l.take i)).length≤i:=Nat.le_trans (List.length_filter_le _ _) (by rw[List.length_take];omega)
   have hst:kW ino (l.take (i+1))=kW ino (l.take i)++(if l[i].f0=ino then []else [l[i]]):=by
    unfold kW;rw[List.take_succ_eq_append_getElem hi,List.filter_append]
    congr 1
    by_cases c:l[i].f0=ino
    ·rw[if_pos c,List.filter_cons_of_neg (by simp[c]),List.filter_nil]
    ·rw[if_neg c,List.filter_cons_of_pos (by simp[c]),List.filter_nil]
   rw[hst]at h
   apply aX
   simp only[b_.l0,hrd,oN l[i] (hs _ (List.getElem_mem hi)),Option.bind_some];rw[nn i l.length hi (by omega)];refine bn (by omega) (bn (by omega) ?_)
   by_cases c:l[i].f0=ino
   ·rw[if_pos c,List.append_nil]at h;exact bn c h
   ·rw[if_neg c]at h
    exact dv c (bn (by omega) h))
 simpa [b_.f,kW]using key
theorem yV (l:List aZ) (nx ino:Int) (hl:l.length≤1048576) (hs:∀x∈l,gu x):Ev (fun k=>ik.f k l nx ino) (kW ino l,nx):=by
 unfold ik.f;exact Ev.bind (lz l nx hl hs) (bn (by dsimp only;omega) (Ev.now _))
end Go.Proofs.YtlecajlnjmbilaaGreatDoor.Q
namespace Go.Proofs.YtlecajlnjmbilaaGreatDoor.Q
open Go.RowKit Go.Proofs.YtlecajlnjmbilaaGreatDoor.P Go.Proofs.ab.ao Go.Proofs.ab.aE Go.Proofs.ab.aI
theorem kK (l:List aZ) (nx:Int) (hl:l.length≤1048576) (hs:∀x∈l,gu x):Ev (fun k=>cd.f k l nx) (l,nx):=by
 have key:=down (n:=l.length) (P:=fun i=>Ev (fun k=>cd.l0 k (i:Nat) l nx (l.take i) nx) (l,nx)) (by
   apply aX
   simp only[cd.l0,List.take_length]
   exact dv (by omega) (Ev.now _)) (fun i hi h=>by
   have hrd:af l (i:Int)=l[i]:=getD_at l _ i hi
   apply aX
   simp only[cd.l0,hrd,oN l[i] (hs _ (List.getElem_mem hi)),Option.bind_some];rw[nn i l.length hi (by omega)];refine bn (by omega) (bn (by omega) (bn (by rw[List.length_take];omega) ?_));rw[List.take_succ_eq_append_getElem hi]at h
   exact h)
 simpa [cd.f]using key
def lF (ino:Int):List aZ→Nat
 |[]=>0
 |y::l=>if y.f0<ino then lF ino l+1 else 0
theorem xr (ino:Int) (l:List aZ):∀j:Nat,cC ino l j<0→∀y∈l,y.f0≠ino:=by
 induction l with
 |nil=>intro j _ y hy;cases hy
 |cons x l ih=>
  intro j h y hy;rw[cC]at h
  split at h
  ·omega
  ·rcases List.mem_cons.1 hy with rfl|hy
   ·assumption
   ·exact ih _ h y hy
theorem abE (ino:Int) (l:List aZ):(∀y∈l,y.f0≠ino)→∀j:Nat,(vl ino l j= -1∧lF ino l=l.length)∨(vl ino l j=((j+lF ino l:Nat):Int)∧lF ino l<l.length):=by
 induction l with
 |nil=>intro _ j;exact .inl ⟨rfl,rfl⟩
 |cons x l ih=>
  intro h j;have hx:=h x (List.mem_cons_self ..);rw[vl,lF]
  by_cases c:ino<x.f0
  ·rw[if_pos c,if_neg (by omega)];exact .inr ⟨by simp,by simp⟩
  ·rw[if_neg c,if_pos (by omega)];rcases ih (fun y hy=>h y (List.mem_cons_of_mem _ hy)) (j+1)with⟨h1,h2⟩|⟨h1,h2⟩
   ·exact .inl ⟨h1,by rw[h2];rfl⟩
   ·exact .inr ⟨by rw[h1];congr 1;omega,by simp only[List.length_cons];omega⟩
theorem abF (ino:Int) (l:List aZ) (h:cC ino l 0<0):gtP ino l=lF ino l:=by
 unfold gtP;rcases abE ino l (xr ino l 0 h) 0 with⟨h1,h2⟩|⟨h1,h2⟩
 ·rw[h1,if_pos (by omega),h2]
 ·rw[h1,if_neg (by omega)];omega
theorem abG (ino:Int) (l:List aZ):lF ino l≤l.length:=by
 induction l with
 |nil=>exact Nat.le_refl _
 |cons x l ih=>rw[lF,List.length_cons];split<;>omega
theorem ov (x:aZ) (l:List aZ):(lN x l).length≤l.length+1:=by
 unfold lN
 split
 ·rw[List.length_set];omega
 ·simp only[List.length_append,List.length_take,List.length_drop,List.length_singleton];omega
theorem vJ (x y:aZ) (l:List aZ) (h:y∈lN x l):y=x∨y∈l:=by
 unfold lN at h
 split at h
 ·rcases List.mem_or_eq_of_mem_set h with h|h
  ·exact .inr h
  ·exact .inl h
 ·rcases List.mem_append.1 h with h|h
  ·rcases List.mem_append.1 h with h|h
   ·exact .inr (List.mem_of_mem_take h)
   ·exact .inl (by simpa using h)
  ·exact .inr (List.mem_of_mem_drop h)
theorem nv (a b:List aZ):cQ (a++b)=cQ a+cQ b:=by unfold cQ;rw[List.map_append,List.sum_append]
theorem xt (x:aZ) (l:List aZ):cQ (lN x l)≤cQ l+mj x:=by
 unfold lN
 split
 ·generalize (cC x.f0 l 0).toNat=i;rw[List.set_eq_take_append_cons_drop]
  split
  ·have h:cQ l=cQ (l.take i)+cQ (l.drop i):=by rw[←nv,List.take_append_drop]
   have h2:cQ (l.drop (i+1))≤cQ (l.drop i):=by
    rcases Nat.lt_or_ge i l.length with hi|hi
    ·rw[List.drop_eq_getElem_cons hi];unfold cQ;rw[List.map_cons,List.sum_cons];omega
    ·rw[List.drop_of_length_le hi,List.drop_of_length_le (by omega)];exact Nat.le_refl _
   have h3:cQ (x::l.drop (i+1))=mj x+cQ (l.drop (i+1)):=by unfold cQ;simp
   rw[nv,h3]
   omega
  ·omega
 ·generalize gtP x.f0 l=i
  have h:cQ l=cQ (l.take i)+cQ (l.drop i):=by rw[←nv,List.take_append_drop]
  rw[nv,nv]
  have:cQ [x]=mj x:=by unfold cQ;simp
  omega
theorem abH (l:List aZ) (nx:Int) (x:aZ) (hl:l.length≤1048576) (hs:∀x∈l,gu x) (hx:gu x):Ev (fun k=>iW.f k l nx x.f0 x.f1 x.f2 x.f3 x.f4 x.f5) (lN x l,nx):=by
 unfold iW.f;refine Ev.bind (lz l nx hl hs) ?_;simp only[rY x hx,Option.bind_some];exact bn (by omega) (Ev.now _)
theorem abI (l:List aZ) (nx:Int) (x:aZ) (hl:l.length≤1048576) (hs:∀x∈l,gu x) (hx:gu x):Ev (fun k=>bb.f k l nx x.f0 x.f1 x.f2 x.f3 x.f4 x.f5) (lN x l,nx):=by
 have hr:=lD x.f0 l 0;unfold bb.f;refine Ev.bind (kK l nx hl hs) (Ev.bind (oO l nx x.f0 hl) ?_)
 by_cases c:0≤cC x.f0 l 0
 ·simp only[oN x hx,Option.bind_some];refine bn c (bn c (bn (by omega) (eW (Ev.now _) ?_)));unfold lN;rw[if_pos c]
 ·refine dv c ?_
  have hp:lN x l=l.take (lF x.f0 l)++[x]++l.drop (lF x.f0 l):=by
   unfold lN;rw[if_neg c,abF _ _ (by omega)]
  rw[hp];have hle:=abG x.f0 l
  have key:=down (n:=l.length) (P:=fun i=>i+lF x.f0 (l.drop i)=lF x.f0 l→Ev (fun k=>bb.l0 k (i:Nat) l nx x.f0 x.f1 x.f2 x.f3 x.f4 x.f5 l nx) (l.take (lF x.f0 l)++[x]++l.drop (lF x.f0 l),nx)) (fun hi=>by
    rw[List.drop_length]at hi
    have hi':l.length=lF x.f0 l:=by rw[←hi];rfl
    apply aX
    simp only[bb.l0,oN x hx,Option.bind_some,Int.toNat_natCast,List.nil_append,List.length_nil];refine dv (by omega) (bn (by omega) (bn (by omega) (bn (by rw[List.length_take];omega) (bn (by rw[List.length_take];omega) (bn (by simp only[List.length_append,List.length_take,List.length_drop,List.length_singleton];omega) (eW (Ev.now _) ?_))))))
    rw[←hi']) (fun i hi h hd=>by
    have hrd:af l (i:Int)=l[i]:=getD_at l _ i hi;rw[List.drop_eq_getElem_cons hi,lF]at hd
    apply aX
    simp only[bb.l0,hrd,oN x hx,Option.bind_some,Int.toNat_natCast,List.nil_append,List.length_nil];rw[nn i l.length hi (by omega)];refine bn (by omega) (bn (by omega) ?_)
    by_cases cc:l[i].f0<x.f0
    ·rw[if_pos cc]at hd;exact bn cc (h (by omega))
    ·rw[if_neg cc]at hd;refine dv cc (bn (by omega) (bn (by rw[List.length_take];omega) (bn (by rw[List.length_take];omega) (bn (by simp only[List.length_append,List.length_take,List.length_drop,List.length_singleton];omega) (eW (Ev.now _) ?_)))))
     rw[show i=lF x.f0 l by omega])
  exact key (by simp)
end Go.Proofs.YtlecajlnjmbilaaGreatDoor.Q
namespace Go.Proofs.YtlecajlnjmbilaaGreatDoor.Q
open Go.RowKit Go.Proofs.YtlecajlnjmbilaaGreatDoor.P Go.Proofs.ab.ao Go.Proofs.ab.aE Go.Proofs.ab.aI
end Go.Proofs.YtlecajlnjmbilaaGreatDoor.Q
namespace Go.Proofs.YtlecajlnjmbilaaGreatDoor.Q
open Go.RowKit Go.Proofs.YtlecajlnjmbilaaGreatDoor.P Go.Proofs.ab.ao Go.Proofs.ab.aE Go.Proofs.ab.aI
theorem sw (l:List ByteArray) (h:l≠[]):(⟨#[47]⟩++om l:ByteArray)=lh l:=by
 induction l with
 |nil=>exact absurd rfl h
 |cons x l ih=>
  cases l with
  |nil=>
   simp only[lh,xR]
   congr 1
   simp[om,Lib.join]
  |cons y l=>
   have:=ih (by simp);rw[lh,←this]
   apply ByteArray.ext
   simp[om,Lib.join,ByteArray.data_append]
theorem yW (l:List ByteArray) (hl:l.length≤1048576) (hz:ji l≤1048576):Ev (fun k=>fF.f k l) (if ei l=true then⟨#[47]⟩++om l else⟨#[]⟩):=by
 have hs:∀x∈l,x.size≤1048576:=fun x hx=>Nat.le_trans (th l x hx) hz
 have hj:(om l).size≤3000000:=by
  cases l with
  |nil=>decide
  |cons x l=>
   have h1:=sw (x::l) (by simp);have h2:=sd (x::l);rw[←h1,ByteArray.size_append]at h2
   omega
 have hn:Ev (fun k=>ff.f k l) (ei l):=by
  unfold ff.f ei
  by_cases c:l.length≤30
  ·obtain⟨r,h1,h2⟩:=xQ l hs 0;refine bn c (Ev.bind h1 (eW (Ev.now _) ?_));rw[h2];simp[c]
  ·exact dv c (eW (Ev.now _) (by simp[c]))
 unfold fF.f;refine Ev.bind hn ?_
 by_cases c:ei l=true
 ·exact bn c (bn ⟨by omega,by omega⟩ (eW (Ev.now _) (by rw[if_pos c])))
 ·exact dv c (eW (Ev.now _) (by rw[if_neg c]))
theorem yX (l:List ByteArray) (hl:l.length≤1048576) (hz:ji l≤1048576):Ev (fun k=>cL.f k l) (if l.length=0 then⟨#[47]⟩else if ei l=true then lh l else⟨#[]⟩):=by
 have hs:∀x∈l,x.size≤1048576:=fun x hx=>Nat.le_trans (th l x hx) hz
 unfold cL.f
 by_cases c0:l.length=0
 ·exact bn (by omega) (eW (Ev.now _) (by rw[if_pos c0]))
 ·refine dv (by omega) ?_;rw[if_neg c0]
  by_cases c:l.length≤30
  ·have key:=aef (n:=l.length) (P:=fun i=>∀acc:ByteArray,acc.size+(l.length-i)+ji (l.drop i)≤3000000→Ev (fun k=>cL.l0 k l acc (i:Nat)) (if(l.drop i).all fR=true then acc++lh (l.drop i)else⟨#[]⟩)) (by
     intro acc _
     apply aX
     simp only[cL.l0];refine dv (by omega) (eW (Ev.now _) ?_);rw[List.drop_length]
     simp[lh,xR]) (by
     intro i hi ih acc hb;have hd:=xi l i hi;have hx:=lW l[i] (by have:=hs l[i] (List.getElem_mem hi);omega)
     have h1:(acc++(⟨#[47]⟩:ByteArray)).size=acc.size+1:=by rw[ByteArray.size_append];rfl
     have ih:=ih ((acc++(⟨#[47]⟩:ByteArray))++l[i]) (by rw[ByteArray.size_append,h1];omega)
     apply aX
     simp only[cL.l0,rdS l i hi];rw[adC i l.length hi (by omega),List.drop_eq_getElem_cons hi,List.all_cons,lh];refine bn (by omega) (bn (by omega) (Ev.bind hx ?_))
     by_cases cn:fR l[i]=true
     ·refine bn cn (dv (by omega) (bn (by omega) (bn (by rw[h1];omega) (eW ih ?_))));rw[cn,Bool.true_and]
      split
      ·simp only[ByteArray.append_assoc]
      ·rfl
     ·exact dv cn (eW (Ev.now _) (by simp[cn])))
   refine eW (key ⟨#[]⟩ (by simp only[List.drop_zero];have:(⟨#[]⟩:ByteArray).size=0:=rfl;omega)) ?_;simp only[List.drop_zero,acp,ei,c,decide_true,Bool.and_true]
  ·have hi:0<l.length:=by omega
   have hx:=lW l[0] (by have:=hs l[0] (List.getElem_mem hi);omega);have hr:iZ ByteArray.empty l (0:Int)=l[0]:=rdS l 0 hi
   apply aX
   simp only[cL.l0,hr];refine bn (by omega) (bn (by omega) (Ev.bind hx ?_))
   have hgp:ei l=false:=by simp[ei,c]
   rw[hgp]
   by_cases cn:fR l[0]=true
   ·exact bn cn (bn (by omega) (Ev.now _))
   ·exact dv cn (Ev.now _)
end Go.Proofs.YtlecajlnjmbilaaGreatDoor.Q
namespace Go.Proofs.YtlecajlnjmbilaaGreatDoor.Q
open Go.RowKit Go.Proofs.YtlecajlnjmbilaaGreatDoor.P Go.Proofs.ab.ao Go.Proofs.ab.aE Go.Proofs.ab.aI
theorem xu (l:List ByteArray) (hl:l.length≤1048576) (hz:ji l≤1048576):Ev (fun k=>fF.f k l) (pk l):=by
 refine eW (yW l hl hz) ?_;unfold pk
 by_cases c:l.length=0
 ·obtain rfl:=List.eq_nil_of_length_eq_zero c
  rfl
 ·rw[if_neg c]
  split
  ·rw[sw l (fun h=>c (by rw[h];rfl))]
  ·rfl
end Go.Proofs.YtlecajlnjmbilaaGreatDoor.Q
namespace Go.Proofs.YtlecajlnjmbilaaGreatDoor.Q
open Go.RowKit Go.Proofs.YtlecajlnjmbilaaGreatDoor.P Go.Proofs.ab.ao Go.Proofs.ab.aE Go.Proofs.ab.aI
def eA (s:ByteArray):ByteArray×ByteArray×Bool:=
 if(cN s).2=true then(if(cN s).1.length=0 then(⟨#[]⟩,⟨#[]⟩,false)else(pk ((cN s).1.take ((cN s).1.length-1)),(cN s).1.getD ((cN s).1.length-1) ⟨#[]⟩,true))else(⟨#[]⟩,⟨#[]⟩,false)
theorem vK (s:ByteArray) (hs:s.size≤1048576):Ev (fun k=>dh.f k s) (eA s):=by
 unfold dh.f eA;refine Ev.bind (pB s hs) ?_;obtain⟨h1,h2⟩:=mz s;generalize cN s=p at*;refine yz (fun c=> ?_) (fun _=>Ev.now _)
 by_cases c0:p.1.length=0
 ·exact bn (by omega) (eW (Ev.now _) (by rw[if_pos c0]))
 ·have ht:=se p.1 (p.1.length-1)
  have hw:wrap64 ((p.1.length:Int)-1)=((p.1.length-1:Nat):Int):=by rw[lC (by omega) (by omega)];omega
  simp only[hw,Int.toNat_natCast];refine dv (by omega) (bn (by omega) (bn (by omega) (Ev.bind (xu _ (by rw[List.length_take];omega) (by omega)) (bn (by omega) (eW (Ev.now _) ?_)))));rw[if_neg c0]
  rfl
theorem qJ (s:ByteArray) (hs:s.size≤1048576):Ev (fun k=>gm.f k s) (eA s):=by
 unfold gm.f eA;refine Ev.bind (sa s hs) ?_;obtain⟨h1,h2⟩:=mz s;generalize cN s=p at*;refine yz (fun c=> ?_) (fun _=>Ev.now _)
 by_cases c0:p.1.length=0
 ·exact bn (by omega) (eW (Ev.now _) (by rw[if_pos c0]))
 ·have ht:=se p.1 (p.1.length-1)
  have hw:wrap64 ((p.1.length:Int)-1)=((p.1.length-1:Nat):Int):=by rw[lC (by omega) (by omega)];omega
  simp only[hw,Int.toNat_natCast];refine dv (by omega) (bn (by omega) (bn (by omega) (Ev.bind (yX _ (by rw[List.length_take];omega) (by omega)) (bn (by omega) (eW (Ev.now _) ?_)))));rw[if_neg c0]
  rfl
end Go.Proofs.YtlecajlnjmbilaaGreatDoor.Q
namespace Go.Proofs.YtlecajlnjmbilaaGreatDoor.Q
open Go.RowKit Go.Proofs.YtlecajlnjmbilaaGreatDoor.P Go.Proofs.ab.ao Go.Proofs.ab.aE Go.Proofs.ab.aI
theorem pA.a {x:aZ}(h:pA x):gu x:=⟨h.d,h.e,h.t⟩
def mh (T:List aZ) (nx:Int) (ps:List ByteArray):Bool:=ps.all (fun p=>(cN p).2)&&nJ T nx
theorem vL (T:List aZ) (nx:Int) (ps:List ByteArray) (hT:T.length≤1048576) (hs:∀x∈T,pA x) (hp:∀p∈ps,p.size≤1048576) (hn:ps.length≤1048576):Ev (fun k=>eT.f k T nx ps) (mh T nx ps):=by
 have key:=down (n:=ps.length) (P:=fun i=>Ev (fun k=>eT.l0 k ps (ps.length:Int) (i:Nat) T nx) ((ps.drop i).all (fun p=>(cN p).2)&&nJ T nx)) (by
   apply aX
   simp only[eT.l0,List.drop_length]
   exact dv (by omega) (Ev.bind (vI T nx hT hs) (eW (Ev.now _) (by simp)))) (fun i hi h=>by
   have hrd:iZ ByteArray.empty ps (i:Int)=ps[i]:=getD_at ps _ i hi
   apply aX
   simp only[eT.l0,hrd];rw[nn i ps.length hi (by omega),List.drop_eq_getElem_cons hi,List.all_cons];refine bn (by omega) (bn (by omega) (bn (by omega) (Ev.bind (pB _ (hp _ (List.getElem_mem hi))) ?_)))
   by_cases c:(cN ps[i]).2=true
   ·exact bn c (eW h (by rw[c,Bool.true_and]))
   ·exact dv c (eW (Ev.now _) (by rw[show(cN ps[i]).2=false by simpa using c];rfl)))
 simpa [eT.f,mh]using key
def il (T:List aZ) (p:ByteArray):aZ×ByteArray×Int:=
 let q:=eA p
 let s:=gx T q.1
 if s.2=0 then(if s.1.f1=2 then(s.1,q.2.1,0)else(pC,⟨#[]⟩,3))else(pC,⟨#[]⟩,s.2)
theorem adD (l:List ByteArray) (h:ei l=true):ji l≤420∧l.length≤30:=by
 unfold ei at h;simp only[Bool.and_eq_true,decide_eq_true_eq,List.all_eq_true]at h;obtain⟨h1,h2⟩:=h
 have key:∀m:List ByteArray,(∀x∈m,fR x=true)→ji m≤14*m.length:=by
  intro m
  induction m with
  |nil=>intro _;simp[ji]
  |cons x m ih=>
   intro hm;have:=(ur x (hm x (List.mem_cons_self ..))).2.2;have:=ih (fun y hy=>hm y (List.mem_cons_of_mem _ hy));simp only[ji,List.map_cons,List.sum_cons,List.length_cons]at this⊢
   omega
 have:=key l h1
 omega
theorem vM (l:List ByteArray):(pk l).size≤1048576:=by
 by_cases c:ei l=true
 ·rw[xm l c];have:=adD l c;omega
 ·unfold pk;split
  ·decide
  ·decide
theorem qa (p:ByteArray):(eA p).1.size≤1048576:=by
 unfold eA
 split
 ·split
  ·decide
  ·exact vM _
 ·decide
def acE (s:aZ×ByteArray×Int):Int×Int×Int×List Int×List db×List ey×ByteArray×Int:=(s.1.f0,s.1.f1,s.1.f2,s.1.f3,s.1.f4,s.1.f5,s.2.1,s.2.2)
theorem yY (T:List aZ) (nx:Int) (p:ByteArray) (hT:T.length≤1048576) (hs:∀x∈T,gu x) (hp:p.size≤1048576):Ev (fun k=>km.f k T nx p) (acE (il T p)):=by
 unfold km.f;refine Ev.bind (vK p hp) (Ev.bind (tj T nx _ hT hs (qa p)) ?_);simp only[il,ze]
 by_cases c1:(gx T (eA p).1).2=0
 ·refine bn c1 ?_;rw[if_pos c1]
  by_cases c2:(gx T (eA p).1).1.f1=2
  ·exact bn c2 (eW (Ev.now _) (by rw[if_pos c2];rfl))
  ·exact dv c2 (eW (Ev.now _) (by rw[if_neg c2];rfl))
 ·exact dv c1 (eW (Ev.now _) (by rw[if_neg c1];rfl))
theorem mv (T:List aZ) (p:ByteArray) (hs:∀x∈T,gu x):gu (il T p).1:=by
 have h0:gu pC:=⟨by decide,by decide,by decide⟩;unfold il;dsimp only
 split
 ·split
  ·exact vA T _ hs
  ·exact h0
 ·exact h0
def oo (x:aZ) (e:List db):aZ:=⟨x.f0,x.f1,x.f2,x.f3,e,x.f5⟩
end Go.Proofs.YtlecajlnjmbilaaGreatDoor.Q
namespace Go.Proofs.YtlecajlnjmbilaaGreatDoor.Q
open Go.RowKit Go.Proofs.YtlecajlnjmbilaaGreatDoor.P Go.Proofs.ab.ao Go.Proofs.ab.aE Go.Proofs.ab.aI
structure Bd (Y:List aZ):Prop where
 len:Y.length≤1048577
 a:∀y∈Y,gu y
 w:cQ Y≤4611686018427380000
theorem xv (x:aZ) (h:gu x):mj x≤5242883:=by
 have h1:=h.d;have h2:=h.e;have h3:=h.t;unfold mj inW
 omega
theorem Bd.of (T:List aZ) (hT:T.length≤1048576) (hA:∀x∈T,gu x) (hw:cQ T≤1000000000000):Bd T:=⟨by omega,hA,by omega⟩
theorem Bd.set1 (T:List aZ) (x:aZ) (hT:T.length≤1048576) (hA:∀x∈T,gu x) (hw:cQ T≤1000000000000) (hx:gu x):Bd (lN x T):=by
 have h1:=xt x T;have h2:=xv x hx;refine⟨Nat.le_trans (ov _ _) (by omega),fun y hy=> ?_,by omega⟩;rcases vJ _ _ _ hy with rfl|hy
 ·exact hx
 ·exact hA y hy
theorem Bd.filter {Y:List aZ}(h:Bd Y) (f:aZ→Bool):Bd (Y.filter f):=
 ⟨Nat.le_trans (List.length_filter_le ..) h.len,fun y hy=>h.a y (List.mem_filter.1 hy).1,Nat.le_trans (uj f Y) h.w⟩
theorem acg (T:List aZ) (nx:Int) (Y:List aZ) (m c:Int) (hT:T.length≤1048576) (hA:∀x∈T,gu x) (hw:cQ T≤1000000000000) (hY:Bd Y):
  Ev (fun k=>(f_.f k Y m Y m).bind fun e1=>(f_.f k T nx T nx).bind fun e2=>(eB.f k T 1).bind fun mt=>(eB.f k Y 1).bind fun mm=>(fm.f k mm.2 m 1).bind fun q=>
   if c=c∧e1=true∧e2=true∧¬mt.1<0∧¬q<0∧q=mm.1∧mm.2.length=Y.length then some true else none) true:=by
 have hl2:=hY.len;have hw2:=hY.w;obtain⟨mt,m1,_,_,_⟩:=abt T 1 hT (by omega) (by omega);obtain⟨mg,m2,k2,k3,hh⟩:=tg Y 1 hl2 (by omega) (by omega);have m3:=yH mg m 1 (by omega) (by omega) (by omega) hh;rw[k3]at m3;refine Ev.bind (rX Y m (by omega) (rZ hY.a)) (Ev.bind (rX T nx (by omega) (rZ hA)) (Ev.bind m1 (Ev.bind m2 (Ev.bind m3 (bn ?_ (Ev.now _))))));exact⟨rfl,rfl,rfl,by dsimp only;omega,by omega,rfl,k2⟩
theorem abc (l:List nq) (h:∀x∈l,ack x):∀x∈l.map kp,pA x:=by
 intro x hx;obtain⟨y,hy,rfl⟩:=List.mem_map.1 hx;have hS:=h y hy;refine⟨hS.d,by simpa [kp]using hS.e,by simpa [kp]using hS.t,fun z hz=> ?_,fun z hz=> ?_⟩
 ·obtain⟨u,hu,rfl⟩:=List.mem_map.1 hz;exact hS.en u hu
 ·obtain⟨u,hu,rfl⟩:=List.mem_map.1 hz;exact(hS.tn u hu).1
end Go.Proofs.YtlecajlnjmbilaaGreatDoor.Q
namespace Go.Proofs.YtlecajlnjmbilaaGreatDoor.Q
open Go.RowKit Go.Proofs.YtlecajlnjmbilaaGreatDoor.P Go.Proofs.ab.ao Go.Proofs.ab.aE Go.Proofs.ab.aI
section
variable (ex:Int→Bool) (kids:Int→List Int)
def below:Nat→Int→List Int
 |0,_=>[]
 |k+1,x=>if kids x=[]then []else x::(kids x).flatMap (below k)
variable {ex kids}
end
end Go.Proofs.YtlecajlnjmbilaaGreatDoor.Q
namespace Go.Proofs.YtlecajlnjmbilaaGreatDoor.Q
open Go.RowKit Go.Proofs.YtlecajlnjmbilaaGreatDoor.P Go.Proofs.ab.ao Go.Proofs.ab.aE Go.Proofs.ab.aI
theorem yZ (n:Int) (l:List aZ):∀i:Nat,cC n l i= -1∨∃j,∃h:j<l.length,cC n l i=((i+j:Nat):Int)∧l[j].f0=n:=by
 induction l with
 |nil=>intro i;exact .inl rfl
 |cons x l ih=>
  intro i;rw[cC]
  split
  ·rename_i h;exact .inr ⟨0,by simp,by simp,h⟩
  ·rcases ih (i+1)with h|⟨j,hj,h,e⟩
   ·exact .inl h
   ·exact .inr ⟨j+1,by simp;omega,by rw[h];congr 1;omega,by simpa using e⟩
theorem abJ (l:List aZ) (n:Int) (h:fc l n=true):fg l n∈l∧(fg l n).f0=n:=by
 unfold fc at h;have h:=of_decide_eq_true h;rcases yZ n l 0 with g|⟨j,hj,g,e⟩
 ·omega
 ·unfold fg;rw[if_neg (by omega),g]
  have:af l (((0+j:Nat):Int))=l[j]:=by rw[Nat.zero_add];exact getD_at l _ j hj
  rw[this];exact⟨List.getElem_mem hj,e⟩
end Go.Proofs.YtlecajlnjmbilaaGreatDoor.Q
namespace Go.Proofs.YtlecajlnjmbilaaGreatDoor.Q
open Go.RowKit Go.Proofs.YtlecajlnjmbilaaGreatDoor.P Go.Proofs.ab.ao Go.Proofs.ab.aE Go.Proofs.ab.aI
end Go.Proofs.YtlecajlnjmbilaaGreatDoor.Q
namespace Go.Proofs.YtlecajlnjmbilaaGreatDoor.Q
open Go.RowKit Go.Proofs.YtlecajlnjmbilaaGreatDoor.P Go.Proofs.ab.ao Go.Proofs.ab.aE Go.Proofs.ab.aI
end Go.Proofs.YtlecajlnjmbilaaGreatDoor.Q
namespace Go.Proofs.YtlecajlnjmbilaaGreatDoor.Q
open Go.RowKit Go.Proofs.YtlecajlnjmbilaaGreatDoor.P Go.Proofs.ab.ao Go.Proofs.ab.aE Go.Proofs.ab.aI
end Go.Proofs.YtlecajlnjmbilaaGreatDoor.Q
namespace Go.Proofs.YtlecajlnjmbilaaGreatDoor.Q
open Go.RowKit Go.Proofs.YtlecajlnjmbilaaGreatDoor.P Go.Proofs.ab.ao Go.Proofs.ab.aE Go.Proofs.ab.aI
section
variable {α:Type}(key:α→ByteArray) (d:α)
end
end Go.Proofs.YtlecajlnjmbilaaGreatDoor.Q
namespace Go.Proofs.YtlecajlnjmbilaaGreatDoor.Q
open Go.RowKit Go.Proofs.YtlecajlnjmbilaaGreatDoor.P Go.Proofs.ab.ao Go.Proofs.ab.aE Go.Proofs.ab.aI
end Go.Proofs.YtlecajlnjmbilaaGreatDoor.Q
namespace Go.Proofs.YtlecajlnjmbilaaGreatDoor.Q
open Go.RowKit Go.Proofs.YtlecajlnjmbilaaGreatDoor.P Go.Proofs.ab.ao Go.Proofs.ab.aE Go.Proofs.ab.aI
end Go.Proofs.YtlecajlnjmbilaaGreatDoor.Q
namespace Go.Proofs.YtlecajlnjmbilaaGreatDoor.Q
open Go.RowKit Go.Proofs.YtlecajlnjmbilaaGreatDoor.P Go.Proofs.ab.ao Go.Proofs.ab.aE Go.Proofs.ab.aI
end Go.Proofs.YtlecajlnjmbilaaGreatDoor.Q
namespace Go.Proofs.YtlecajlnjmbilaaGreatDoor.Q
open Go.RowKit Go.Proofs.YtlecajlnjmbilaaGreatDoor.P Go.Proofs.ab.ao Go.Proofs.ab.aE Go.Proofs.ab.aI
theorem xw (x:aZ) (nm:ByteArray) (T:List aZ) (nx:Int) (hT:T.length≤1048576) (hs:∀x∈T,gu x) (hx:gu x):
  Ev (fun k=>hJ.f k x.f0 x.f1 x.f2 x.f3 x.f4 x.f5 nm T nx) (lN (oo x (delN nm x.f4)) T,nx):=by
 have he:=hx.e
 have b:cH.f x.f4=some x.f4:=by unfold cH.f;simp;omega
 unfold hJ.f;simp only[b,Option.bind_some];refine bn (by omega) ?_;exact abH T nx (oo x (delN nm x.f4)) hT hs ⟨hx.d,Nat.le_trans (List.length_filter_le ..) he,hx.t⟩
theorem qb (x:aZ) (T:List aZ) (e:List db) (hx:gu x) (he:e.length≤1048576) (hT:∀x∈T,gu x):∀y∈lN (oo x e) T,gu y:=by
 intro y hy;rcases vJ _ _ _ hy with rfl|hy
 ·exact⟨hx.d,he,hx.t⟩
 ·exact hT y hy
end Go.Proofs.YtlecajlnjmbilaaGreatDoor.Q
namespace Go.Proofs.YtlecajlnjmbilaaGreatDoor.Q
open Go.RowKit Go.Proofs.YtlecajlnjmbilaaGreatDoor.P Go.Proofs.ab.ao Go.Proofs.ab.aE Go.Proofs.ab.aI
def aa9 (T:List aZ) (nx:Int) (p:ByteArray):List aZ×Int×Int:=
 if(gx T p).2=0 then
  (if(gx T p).1.f1=2 then
   (if(gx T p).1.f4.length>0 then(T,nx,6)
    else(kW (gx T p).1.f0 (lN (oo (il T p).1 (delN (il T p).2.1 (il T p).1.f4)) T),nx,0))
   else(T,nx,3))
 else(T,nx,(gx T p).2)
theorem abK (T:List aZ) (nx:Int) (p:ByteArray) (hT:T.length<1048576) (hs:∀x∈T,pA x) (hp:p.size≤1048576)
  (hr:mh T nx [p]=true) (hr2:p.toList≠([47]:List UInt8)):Ev (fun k=>bu.f k T nx p) (aa9 T nx p):=by
 have hA:∀x∈T,gu x:=fun x hx=>(hs x hx).a
 unfold bu.f;refine Ev.bind (lz T nx (by omega) hA) (Ev.bind (vL T nx [p] (by omega) hs (fun q hq=>by rw[List.mem_singleton.1 hq];exact hp) (by simp)) ?_);refine bn hr ?_
 apply aX
 simp only[bu.j0];refine dv (by simpa using hr2) (Ev.bind (tj T nx p (by omega) hA hp) ?_);unfold aa9;simp only[ze];generalize gx T p=s at*
 by_cases c1:s.2=0
 ·refine bn c1 ?_;rw[if_pos c1]
  by_cases c2:s.1.f1=2
  ·refine bn c2 ?_;rw[if_pos c2]
   by_cases c3:s.1.f4.length>0
   ·exact bn (by omega) (eW (Ev.now _) (by rw[if_pos c3]))
   ·refine dv (by omega) ?_;rw[if_neg c3];have hsm:=mv T p hA;refine Ev.bind (yY T nx p (by omega) hA hp) ?_;simp only[acE];generalize il T p=t at*;refine Ev.bind (xw t.1 t.2.1 T nx (by omega) hA hsm) ?_;have hlen:=ov (oo t.1 (delN t.2.1 t.1.f4)) T;exact Ev.bind (yV (lN (oo t.1 (delN t.2.1 t.1.f4)) T) nx s.1.f0 (by omega) (qb _ _ _ hsm (Nat.le_trans (List.length_filter_le ..) hsm.e) hA)) (Ev.now _)
  ·exact dv c2 (eW (Ev.now _) (by rw[if_neg c2]))
 ·exact dv c1 (eW (Ev.now _) (by rw[if_neg c1]))
end Go.Proofs.YtlecajlnjmbilaaGreatDoor.Q
namespace Go.Proofs.YtlecajlnjmbilaaGreatDoor.Q
open Go.RowKit Go.Proofs.YtlecajlnjmbilaaGreatDoor.P Go.Proofs.ab.ao Go.Proofs.ab.aE Go.Proofs.ab.aI
theorem za (T:List aZ) (b:List ByteArray):∀(a:List ByteArray) (ino:Int),lE T (a++b) ino=if(lE T a ino).2=0 then lE T b (lE T a ino).1 else lE T a ino:=by
 intro a
 induction a with
 |nil=>intro ino;rfl
 |cons n a ih=>
  intro ino;rw[List.cons_append,lE,lE]
  by_cases c1:fc T ino=true
  ·rw[if_pos c1,if_pos c1]
   by_cases c2:(fg T ino).f1=2
   ·rw[if_pos c2,if_pos c2]
    by_cases c3:my n (fg T ino).f4=0
    ·rw[if_pos c3,if_pos c3];rfl
    ·rw[if_neg c3,if_neg c3];exact ih _
   ·rw[if_neg c2,if_neg c2];rfl
  ·rw[if_neg c1,if_neg c1];rfl
theorem zb (T:List aZ) (p:ByteArray) (hs:(cN p).2=true) (hr:p.toList≠([47]:List UInt8)) (h:(gx T p).2=0):(il T p).2.2=0∧my (il T p).2.1 (il T p).1.f4=(gx T p).1.f0∧my (il T p).2.1 (il T p).1.f4≠0:=by
 have hg:=vv p hs
 have hne:(cN p).1≠[]:=by
  unfold cN at hs⊢;rw[if_neg hr]at hs⊢;generalize (parts p.data.toList).map oU=m at hs⊢
  cases m with
  |nil=>cases hs
  |cons x l=>
   dsimp only at hs⊢
   by_cases c:x.toList=[]∧l≠[]∧ei l=true
   ·rw[if_pos c];exact c.2.1
   ·rw[if_neg c]at hs;cases hs
 have hl:=List.length_pos_iff.2 hne
 have hp:eA p=(pk ((cN p).1.take ((cN p).1.length-1)),(cN p).1.getD ((cN p).1.length-1) ⟨#[]⟩,true):=by
  unfold eA;rw[if_pos hs,if_neg (by omega)]
 have hgt:ei ((cN p).1.take ((cN p).1.length-1))=true:=by
  unfold ei at hg⊢;simp only[Bool.and_eq_true,List.all_eq_true,decide_eq_true_eq]at hg⊢;exact⟨fun x hx=>hg.1 x (List.mem_of_mem_take hx),by rw[List.length_take];omega⟩
 have aeD:=vy _ hgt
 have happ:(cN p).1=(cN p).1.take ((cN p).1.length-1)++[(cN p).1.getD ((cN p).1.length-1) ⟨#[]⟩]:=by
  conv=>lhs;rw[←List.take_append_drop ((cN p).1.length-1) (cN p).1]
  congr 1
  rw[List.drop_eq_getElem_cons (by omega),List.getD_eq_getElem?_getD,List.getElem?_eq_getElem (by omega),List.drop_of_length_le (by omega)]
  rfl
 have hw:kb T p=if(kb T (eA p).1).2=0 then lE T [(eA p).2.1] (kb T (eA p).1).1 else kb T (eA p).1:=by
  have h1:kb T (eA p).1=lE T ((cN p).1.take ((cN p).1.length-1)) 1:=by
   unfold kb;rw[hp,aeD];rfl
  rw[h1]
  have h2:kb T p=lE T (cN p).1 1:=by unfold kb;rw[if_pos hs]
  rw[h2]
  conv=>lhs;rw[happ]
  rw[za,hp]
 unfold gx at h⊢
 by_cases c:(kb T p).2=0
 ·rw[if_pos c]at h⊢
  by_cases c2:fc T (kb T p).1=true
  ·rw[if_pos c2];have aeE:=(abJ T _ c2).2;have hsp:il T p=(let s:=gx T (eA p).1;if s.2=0 then(if s.1.f1=2 then(s.1,(eA p).2.1,0)else(pC,⟨#[]⟩,3))else(pC,⟨#[]⟩,s.2)):=rfl;rw[hsp];unfold gx;generalize (eA p).2.1=nm at*;generalize kb T (eA p).1=w at*
   by_cases d:w.2=0
   ·rw[if_pos d]at hw⊢;rw[lE]at hw
    by_cases d1:fc T w.1=true
    ·rw[if_pos d1]at hw⊢
     by_cases d2:(fg T w.1).f1=2
     ·rw[if_pos d2]at hw
      by_cases d3:my nm (fg T w.1).f4=0
      ·rw[if_pos d3]at hw;rw[hw]at c;exact absurd c (by show¬(2:Int)=0;decide)
      ·rw[if_neg d3]at hw;dsimp only;rw[if_pos rfl,if_pos d2];refine⟨rfl,?_,d3⟩
       show my nm (fg T w.1).f4=(fg T (kb T p).1).f0
       rw[aeE,hw];rfl
     ·rw[if_neg d2]at hw;rw[hw]at c;exact absurd c (by show¬(3:Int)=0;decide)
    ·rw[if_neg d1]at hw;rw[hw]at c;exact absurd c (by show¬(2:Int)=0;decide)
   ·rw[if_neg d]at hw;rw[hw]at c;exact absurd c d
  ·rw[if_neg c2]at h;exact absurd h (by show¬(2:Int)=0;decide)
 ·rw[if_neg c]at h;exact absurd h c
end Go.Proofs.YtlecajlnjmbilaaGreatDoor.Q
namespace Go.Proofs.YtlecajlnjmbilaaGreatDoor.Q
open Go.RowKit Go.Proofs.YtlecajlnjmbilaaGreatDoor.P Go.Proofs.ab.ao Go.Proofs.ab.aE Go.Proofs.ab.aI
theorem ready_one (T:List aZ) (nx:Int) (p:ByteArray):mh T nx [p]=true↔(nJ T nx=true∧(cN p).2=true):=by
 unfold mh;simp only[List.all_cons,List.all_nil,Bool.and_true,Bool.and_eq_true];exact⟨fun h=>⟨h.2,h.1⟩,fun h=>⟨h.2,h.1⟩⟩
end Go.Proofs.YtlecajlnjmbilaaGreatDoor.Q
namespace Go.Proofs.YtlecajlnjmbilaaGreatDoor.Q
open Go.RowKit Go.Proofs.YtlecajlnjmbilaaGreatDoor.P Go.Proofs.ab.ao Go.Proofs.ab.aE Go.Proofs.ab.aI
theorem tp (p:ByteArray):(eA p).2.2=true↔((cN p).2=true∧p.toList≠([47]:List UInt8)):=by
 unfold eA
 by_cases c:(cN p).2=true
 ·rw[if_pos c]
  by_cases r:p.toList=([47]:List UInt8)
  ·have h0:(cN p).1.length=0:=by unfold cN;rw[if_pos r];rfl
   rw[if_pos h0];exact⟨fun h=>(by cases h),fun h=>absurd r h.2⟩
  ·have hne:¬(cN p).1.length=0:=by
    intro h0;have hne:=List.eq_nil_of_length_eq_zero h0;unfold cN at c hne;rw[if_neg r]at c hne;generalize (parts p.data.toList).map oU=m at c hne
    cases m with
    |nil=>cases c
    |cons x l=>
     dsimp only at c hne
     by_cases d:x.toList=[]∧l≠[]∧ei l=true
     ·rw[if_pos d]at hne;exact d.2.1 hne
     ·rw[if_neg d]at c;cases c
   rw[if_neg hne];exact⟨fun _=>⟨c,r⟩,fun _=>rfl⟩
 ·rw[if_neg c];exact⟨fun h=>(by cases h),fun h=>absurd h.1 c⟩
theorem xV (a b:ByteArray):eqS a b=true↔a.toList=b.toList:=by unfold eqS;simp
theorem abL (l:List db) (nm:ByteArray) (hl:l.length≤1048576):Ev (fun k=>eK.f k l nm) (delN nm l):=by
 have key:=down (n:=l.length) (P:=fun i=>∀acc:List db,acc.length≤i→Ev (fun k=>eK.l0 k l nm acc (i:Nat)) (acc++delN nm (l.drop i))) (by
  intro acc _
  apply aX
  simp only[eK.l0];rw[List.drop_length]
  exact dv (by omega) (eW (Ev.now _) (by simp[delN]))) (fun i hi ih acc ha=>by
  have hr:al l (i:Int)=l[i]:=getD_at l _ i hi
  apply aX
  simp only[eK.l0,hr];rw[nn i l.length hi (by omega),List.drop_eq_getElem_cons hi];refine bn (by omega) (bn (by omega) ?_)
  by_cases c:l[i].f0.toList=nm.toList
  ·refine bn c (eW (ih acc (by omega)) ?_);unfold delN;rw[List.filter_cons_of_neg (by rw[(xV _ _).2 c];decide)]
  ·refine dv c (bn (by omega) (eW (ih (acc++[⟨l[i].f0,l[i].f1⟩]) (by simp;omega)) ?_))
   have hf:eqS l[i].f0 nm=false:=by
    cases h:eqS l[i].f0 nm with
    |false=>rfl
    |true=>exact absurd ((xV _ _).1 h) c
   unfold delN;rw[List.filter_cons_of_pos (by rw[hf];decide),List.append_assoc]
   rfl)
 have:=key [] (Nat.zero_le _)
 simpa [eK.f]using this
theorem abM (T:List aZ) (p:ByteArray) (h:(il T p).2.2=0):(il T p).1=(gx T (eA p).1).1∧(il T p).2.1=(eA p).2.1:=by
 have hsp:il T p=(let s:=gx T (eA p).1;if s.2=0 then(if s.1.f1=2 then(s.1,(eA p).2.1,0)else(pC,⟨#[]⟩,3))else(pC,⟨#[]⟩,s.2)):=rfl;rw[hsp]at h⊢;dsimp only at h⊢
 by_cases c:(gx T (eA p).1).2=0
 ·rw[if_pos c]at h⊢
  by_cases d:(gx T (eA p).1).1.f1=2
  ·rw[if_pos d];exact⟨rfl,rfl⟩
  ·rw[if_neg d]at h;exact absurd h (by show¬(3:Int)=0;decide)
 ·rw[if_neg c]at h;exact absurd h c
theorem vN (T:List aZ) (nx:Int) (p:ByteArray) (hT:T.length≤1048576) (hA:∀x∈T,gu x) (hp:p.size≤1048576) (h:(il T p).2.2=0):Ev (fun k=>kn.f k T nx p) (lN (oo (il T p).1 (delN (il T p).2.1 (il T p).1.f4)) T,nx):=by
 have hsm:=mv T p hA;obtain⟨e1,e2⟩:=abM T p h;rw[e1]at hsm;rw[e1,e2];unfold kn.f;refine Ev.bind (qJ p hp) (Ev.bind (tk T nx _ hT hA (qa p)) ?_);simp only[ze];have he:=hsm.e;refine Ev.bind (abL _ _ he) (Ev.bind (abI T nx (oo (gx T (eA p).1).1 (delN (eA p).2.1 (gx T (eA p).1).1.f4)) hT hA ⟨hsm.d,Nat.le_trans (List.length_filter_le ..) he,hsm.t⟩) (Ev.now _))
def tV (T:List aZ) (nx:Int) (p:ByteArray):List aZ×Int×Int:=if mh T nx [p]=true∧p.toList≠([47]:List UInt8)then aa9 T nx p else(T,nx,1)
theorem tq (T:List aZ) (nx:Int) (ps:List ByteArray) (h:mh T nx ps=true):T.length≤30:=by
 simp only[mh,nJ,ph,Bool.and_eq_true,decide_eq_true_eq]at h
 omega
theorem yy (T:List aZ) (nx:Int) (p:ByteArray) (hT:T.length≤1048576) (hs:∀x∈T,pA x) (hp:p.size≤1048576):Ev (fun k=>bu.f k T nx p) (tV T nx p):=by
 have hA:∀x∈T,gu x:=fun x hx=>(hs x hx).a
 unfold tV
 by_cases c:mh T nx [p]=true∧p.toList≠([47]:List UInt8)
 ·rw[if_pos c];exact abK T nx p (by have:=tq T nx [p] c.1;omega) hs hp c.1 c.2
 ·rw[if_neg c];unfold bu.f;refine Ev.bind (lz T nx (by omega) hA) (Ev.bind (vL T nx [p] (by omega) hs (fun q hq=>by rw[List.mem_singleton.1 hq];exact hp) (by simp)) ?_)
  by_cases c1:mh T nx [p]=true
  ·have c2:p.toList=([47]:List UInt8):=Classical.byContradiction fun h=>c ⟨c1,h⟩
   refine bn c1 ?_
   apply aX
   simp only[bu.j0];exact bn (by simpa using c2) (Ev.now _)
  ·refine dv c1 ?_
   apply aX
   simp only[bu.j0];exact bn trivial (Ev.now _)
theorem abe (T:List aZ) (nx:Int) (p:ByteArray) (hT:T.length≤1048576) (hs:∀x∈T,pA x) (hp:p.size≤1048576):Ev (fun k=>cj.f k T nx p) (tV T nx p):=by
 have hA:∀x∈T,gu x:=fun x hx=>(hs x hx).a
 unfold cj.f;refine Ev.bind (qJ p hp) (Ev.bind (vH T nx (by omega) hs) ?_)
 have bad:¬(mh T nx [p]=true∧p.toList≠([47]:List UInt8))→Ev (fun k=>cj.j0 k p true T nx) (tV T nx p):=by
  intro c
  apply aX
  simp only[cj.j0];refine bn trivial (Ev.bind (kK T nx (by omega) hA) (eW (Ev.now _) ?_));unfold tV;rw[if_neg c]
 by_cases c1:nJ T nx=true
 ·refine bn c1 ?_
  by_cases c2:(eA p).2.2=true
  ·have⟨s1,s2⟩:=(tp p).1 c2;have h30:=tq T nx [p] ((ready_one T nx p).2 ⟨c1,s1⟩);rw[c2];unfold tV;rw[if_pos ⟨(ready_one T nx p).2 ⟨c1,s1⟩,s2⟩]
   apply aX
   simp only[cj.j0,Bool.not_true];refine dv (by decide) (Ev.bind (tk T nx p (by omega) hA hp) ?_);unfold aa9;simp only[ze]
   by_cases d1:(gx T p).2=0
   ·refine bn d1 ?_;rw[if_pos d1];have hso:=(zb T p s1 s2 d1).1
    by_cases d2:(gx T p).1.f1=2
    ·refine bn d2 ?_;rw[if_pos d2]
     by_cases d3:(gx T p).1.f4.length>0
     ·exact bn (by omega) (Ev.bind (kK T nx (by omega) hA) (eW (Ev.now _) (by rw[if_pos d3])))
     ·refine dv (by omega) ?_;rw[if_neg d3];have hsm:=mv T p hA;refine Ev.bind (vN T nx p (by omega) hA hp hso) ?_;have hlen:=ov (oo (il T p).1 (delN (il T p).2.1 (il T p).1.f4)) T;exact Ev.bind (yU (lN (oo (il T p).1 (delN (il T p).2.1 (il T p).1.f4)) T) nx (gx T p).1.f0 (by omega) (qb _ _ _ hsm (Nat.le_trans (List.length_filter_le ..) hsm.e) hA)) (Ev.now _)
    ·exact dv d2 (Ev.bind (kK T nx (by omega) hA) (eW (Ev.now _) (by rw[if_neg d2])))
   ·exact dv d1 (Ev.bind (kK T nx (by omega) hA) (eW (Ev.now _) (by rw[if_neg d1])))
  ·have c2':(eA p).2.2=false:=by simpa using c2
   rw[c2'];exact bad (fun h=>c2 ((tp p).2 ⟨((ready_one T nx p).1 h.1).2,h.2⟩))
 ·exact dv c1 (bad (fun h=>c1 ((ready_one T nx p).1 h.1).1))
end Go.Proofs.YtlecajlnjmbilaaGreatDoor.Q
