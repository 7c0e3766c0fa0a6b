/- What the functions that the law reaches answer, in plain words. No condition. -/
import Derived.Sort.Walk0
import Derived.Test.YtlecajlnjmbilaaGreatDoorKinds
import Derived.Test.YtlecajlnjmbilaaGreatDoorPx15
set_option linter.all false
namespace Go.Proofs.YtlecajlnjmbilaaGreatDoor.Q
open Go.RowKit Go.Proofs.ab.aq Go.Proofs.ab.aH Go.Proofs.ab.aK
theorem aV {α:Type}{g:Nat→Option α}{r:α}(h:Ev (fun k=>g (k+1)) r):Ev g r:=by
 obtain⟨K,h⟩:=h;refine⟨K+1,fun n hn=> ?_⟩;obtain⟨m,rfl⟩:∃m,n=m+1:=⟨n-1,by omega⟩;exact h m (by omega)
theorem bo {α:Type}{c:Prop} [Decidable c] {A B:Nat→Option α}{r:α}(hc:c) (h:Ev A r):Ev (fun k=>if c then A k else B k) r:=by
 simpa only[if_pos hc]using h
theorem dg {α:Type}{c:Prop} [Decidable c] {A B:Nat→Option α}{r:α}(hc:¬c) (h:Ev B r):Ev (fun k=>if c then A k else B k) r:=by
 simpa only[if_neg hc]using h
theorem yI {α:Type}{c:Prop} [Decidable c] {A B:Nat→Option α}{r s:α}(hp:c→Ev A r) (hn:¬c→Ev B s):Ev (fun k=>if c then A k else B k) (if c then r else s):=by
 by_cases hc:c
 ·simpa only[if_pos hc]using hp hc
 ·simpa only[if_neg hc]using hn hc
theorem wX {α:Type}{c:Prop} [Decidable c] {A B:Nat→Option α}{r:α}(hp:c→Ev A r) (hn:¬c→Ev B r):Ev (fun k=>if c then A k else B k) r:=by
 by_cases hc:c
 ·simpa only[if_pos hc]using hp hc
 ·simpa only[if_neg hc]using hn hc
theorem eW {α:Type}{g:Nat→Option α}{r s:α}(h:Ev g r) (e:r=s):Ev g s:=e▸h
theorem lr {n:Int}(h0: -9223372036854775808≤n) (h1:n≤9223372036854775807):wrap64 n=n:=by
 unfold wrap64
 omega
theorem drop_cons (l:List Int) (i:Nat) (h:i<l.length):l.drop i=rd l i::l.drop (i+1):=by
 rw[List.drop_eq_getElem_cons h];simp[Go.Proofs.ab.aq.rd,List.getElem?_eq_getElem h]
theorem toList_data (s:ByteArray):s.toList=s.data.toList:=by
 simp[ByteArray.toList_eq]
end Go.Proofs.YtlecajlnjmbilaaGreatDoor.Q
namespace Go.Proofs.YtlecajlnjmbilaaGreatDoor.Q
open Go.RowKit Go.Proofs.YtlecajlnjmbilaaGreatDoor.P Go.Proofs.ab.aq Go.Proofs.ab.aH Go.Proofs.ab.aK
def lu (c:Int):Bool:=decide (97≤c∧c≤122∨48≤c∧c≤57∨c=95∨c=45∨c=46)
def ll (s:ByteArray):Bool:=decide (1≤s.size∧s.size≤14)&&s.toList !=([46]:List UInt8)&&s.toList !=([46,46]:List UInt8)
def gh (s:ByteArray):Bool:=(bytesOf s).all lu&&ll s
theorem ph (a b c:Int):aZ.f a b c=some (decide (b≤a∧a≤c)):=by
 unfold aZ.f
 by_cases h:a≥b
 ·rw[if_pos h];simp[show b≤a from h]
 ·rw[if_neg h];simp[show¬b≤a from h]
theorem ug (s:ByteArray):((aZ.f (s.size:Int) 1 14).bind fun t101=>(if t101=true then(if s.toList=([46]:List UInt8)then(some false)else(some (s.toList !=([46,46]:List UInt8))))else(some false)))=some (ll s):=by
 rw[ph];simp only[Option.bind_some,ll]
 by_cases h:1≤s.size∧s.size≤14
 ·rw[if_pos (by simp;omega)]
  by_cases h1:s.toList=[46]
  ·simp[h1]
  ·rw[if_neg h1];simp[h,h1]
 ·rw[if_neg (by simp;omega)];simp[h]
theorem uh (s:ByteArray):(if(s.size:Int)≥1 then(if(s.size:Int)≤14 then(if s.toList=([46]:List UInt8)then(some false)else(some (s.toList !=([46,46]:List UInt8))))else(some false))else(some false))=some (ll s):=by
 unfold ll
 by_cases h:1≤s.size
 ·rw[if_pos (by omega)]
  by_cases h2:s.size≤14
  ·rw[if_pos (by omega)]
   by_cases h1:s.toList=[46]
   ·simp[h1]
   ·rw[if_neg h1];simp[h,h2,h1]
  ·rw[if_neg (by omega)];simp[h2]
 ·rw[if_neg (by omega)];simp[h]
theorem si (s:ByteArray) (i:Nat) (h:i<s.size):(bytesOf s).drop i=bt s i::(bytesOf s).drop (i+1):=by
 rw[drop_cons _ _ (by rw[bytesOf_length];exact h),wA]
theorem sj (s:ByteArray) (hs:s.size≤9223372036854775807) (n:Nat):∀(i:Nat),i≤s.size→s.size-i=n→
  Ev (fun k=>aM.l0 k s i) (((bytesOf s).drop i).all lu&&ll s):=by
 induction n with
 |zero=>
  intro i hi hn
  apply aV
  simp only[aM.l0];refine dg (by omega) ?_;rw[ug,List.drop_eq_nil_of_le (by rw[bytesOf_length];omega)]
  simpa using Ev.now _
 |succ n ih=>
  intro i hi hn
  have hlt:i<s.size:=by omega
  have hr:=uQ s i;have ih:=ih (i+1) (by omega) (by omega);rw[show((i+1:Nat):Int)=wrap64 ((i:Int)+1)from by rw[lr (by omega) (by omega)];simp]at ih
  apply aV
  simp only[aM.l0,ph,Option.bind_some];rw[si s i hlt,List.all_cons];refine bo (by omega) (bo (by omega) ?_);rw[lr (by omega) (by omega)];generalize bt s i=c at*
  by_cases h1:97≤c∧c≤122
  ·refine bo (by simp[h1]) (eW ih ?_);simp[lu,h1]
  refine dg (by simp;omega) ?_
  by_cases h2:48≤c∧c≤57
  ·refine bo (by simp[h2]) (eW ih ?_);simp[lu,h2]
  refine dg (by simp;omega) ?_
  by_cases h3:c=95
  ·refine bo h3 (eW ih ?_);simp[lu,h3]
  refine dg h3 ?_
  by_cases h4:c=45
  ·refine bo h4 (eW ih ?_);simp[lu,h4]
  refine dg h4 ?_
  by_cases h5:c=46
  ·refine bo h5 (eW ih ?_);simp[lu,h5]
  refine dg h5 (eW (Ev.now _) ?_)
  have:lu c=false:=by simp[lu];omega
  simp[this]
theorem mj (s:ByteArray) (hs:s.size≤9223372036854775807):Ev (fun k=>aM.f k s) (gh s):=by
 have h:=sj s hs s.size 0 (by omega) (by omega)
 simpa [aM.f,gh]using h
theorem sm (s:ByteArray) (hs:s.size≤9223372036854775807) (n:Nat):∀(i:Nat),i≤s.size→s.size-i=n→
  Ev (fun k=>aD.l0 k s (s.size:Int) i) (((bytesOf s).drop i).all lu&&ll s):=by
 induction n with
 |zero=>
  intro i hi hn
  apply aV
  simp only[aD.l0];refine dg (by omega) ?_;rw[uh,List.drop_eq_nil_of_le (by rw[bytesOf_length];omega)]
  simpa using Ev.now _
 |succ n ih=>
  intro i hi hn
  have hlt:i<s.size:=by omega
  have hr:=uQ s i;have ih:=ih (i+1) (by omega) (by omega);rw[show((i+1:Nat):Int)=wrap64 ((i:Int)+1)from by rw[lr (by omega) (by omega)];simp]at ih
  apply aV
  simp only[aD.l0];rw[si s i hlt,List.all_cons];refine bo (by omega) (bo (by omega) (bo (by omega) ?_));generalize bt s i=c at*
  by_cases hg:lu c=true
  ·have e:(((bytesOf s).drop (i+1)).all lu&&ll s)=(lu c&&((bytesOf s).drop (i+1)).all lu&&ll s):=by simp[hg]
   replace ih:=eW ih e;simp only[lu,decide_eq_true_eq]at hg
   repeat(first|exact ih|refine wX (fun _=> ?_) (fun _=> ?_)|(exfalso;omega))
  ·have e:false=(lu c&&((bytesOf s).drop (i+1)).all lu&&ll s):=by simp[hg]
   have no:=eW (Ev.now false) e;simp only[lu,decide_eq_true_eq]at hg
   repeat(first|exact no|refine wX (fun _=> ?_) (fun _=> ?_)|(exfalso;omega))
theorem qA (s:ByteArray) (hs:s.size≤9223372036854775807):Ev (fun k=>aD.f k s) (gh s):=by
 have h:=sm s hs s.size 0 (by omega) (by omega)
 simpa [aD.f,gh]using h
end Go.Proofs.YtlecajlnjmbilaaGreatDoor.Q
namespace Go.Proofs.YtlecajlnjmbilaaGreatDoor.Q
open Go.RowKit Go.Proofs.YtlecajlnjmbilaaGreatDoor.P Go.Proofs.ab.aq Go.Proofs.ab.aH Go.Proofs.ab.aK
theorem abj (l:List Int) (n i:Nat) (hn:n=l.length) (hi:i<n):(l.take i++List.replicate (n-i) 0).set i (rd l i)=l.take (i+1)++List.replicate (n-(i+1)) 0:=by
 subst hn;rw[List.set_append,if_neg (by rw[List.length_take];omega),show i-(l.take i).length=0 from by rw[List.length_take];omega];obtain⟨m,hm⟩:∃m,l.length-i=m+1:=⟨l.length-i-1,by omega⟩;rw[hm,List.replicate_succ,List.set_cons_zero,show l.length-(i+1)=m from by omega,List.take_succ_eq_append_getElem hi,List.append_assoc]
 have:rd l i=l[i]:=by simp[Go.Proofs.ab.aq.rd,List.getElem?_eq_getElem hi]
 rw[this]
 rfl
theorem ui (l:List Int) (hl:l.length≤9223372036854775807) (n:Nat):∀(i:Nat),i≤l.length→l.length-i=n→
  Ev (fun k=>dz.l0 k l (l.take i++List.replicate (l.length-i) 0) i) l:=by
 induction n with
 |zero=>
  intro i hi hn
  apply aV
  simp only[dz.l0];refine dg (by omega) ?_;rw[List.take_of_length_le (by omega),hn]
  simpa using Ev.now l
 |succ n ih=>
  intro i hi hn;have ih:=ih (i+1) (by omega) (by omega);rw[show((i+1:Nat):Int)=wrap64 ((i:Int)+1)from by rw[lr (by omega) (by omega)];simp]at ih
  apply aV
  simp only[dz.l0];refine bo (by omega) (bo (by omega) (bo (by simp[List.length_append,List.length_take];omega) ?_));rw[Int.toNat_natCast,abj l _ i rfl (by omega)];exact ih
theorem wY (l:List Int) (hl:l.length≤281474976710656):Ev (fun k=>dz.f k l) l:=by
 have h:=ui l (by omega) l.length 0 (by omega) (by omega)
 simpa [dz.f,hl]using h
theorem aci (a b:List Int) (i:Nat) (ha:i<a.length) (hb:i<b.length):decide (a.drop i=b.drop i)=(decide (rd a i=rd b i)&&decide (a.drop (i+1)=b.drop (i+1))):=by
 rw[drop_cons a i ha,drop_cons b i hb]
 by_cases h:rd a i=rd b i<;>simp[h]
theorem uj (a b:List Int) (hab:a.length=b.length) (hl:a.length≤9223372036854775807) (n:Nat):∀(i:Nat),i≤a.length→a.length-i=n→
  Ev (fun k=>dr.l0 k a b i) (decide (a.drop i=b.drop i)):=by
 induction n with
 |zero=>
  intro i hi hn
  apply aV
  simp only[dr.l0];refine dg (by omega) ?_;rw[List.drop_eq_nil_of_le (by omega),List.drop_eq_nil_of_le (by omega)]
  simpa using Ev.now true
 |succ n ih=>
  intro i hi hn;have ih:=ih (i+1) (by omega) (by omega);rw[show((i+1:Nat):Int)=wrap64 ((i:Int)+1)from by rw[lr (by omega) (by omega)];simp]at ih
  apply aV
  simp only[dr.l0];rw[aci a b i (by omega) (by omega)];refine bo (by omega) (bo (by omega) (bo (by omega) ?_))
  by_cases h:rd a i=rd b i
  ·refine bo h (eW ih ?_);simp[h]
  ·refine dg h (eW (Ev.now _) ?_);simp[h]
theorem wZ (a b:List Int) (hl:a.length≤9223372036854775807):Ev (fun k=>dr.f k a b) (decide (a=b)):=by
 unfold dr.f
 by_cases h:a.length=b.length
 ·have h1:=uj a b h hl a.length 0 (by omega) (by omega);refine bo (by omega) ?_
  simpa using h1
 ·refine dg (by omega) (eW (Ev.now _) ?_)
  have:a≠b:=fun e=>h (by rw[e])
  simp[this]
end Go.Proofs.YtlecajlnjmbilaaGreatDoor.Q
namespace Go.Proofs.YtlecajlnjmbilaaGreatDoor.Q
open Go.RowKit Go.Proofs.ab.aq Go.Proofs.ab.aH Go.Proofs.ab.aK
theorem vC {α β:Type}(xs:List α) (f:α→β) (z:β) (i:Nat) (hi:i<xs.length):
  ((xs.take i).map f++List.replicate (xs.length-i) z).set i (f xs[i])=(xs.take (i+1)).map f++List.replicate (xs.length-(i+1)) z:=by
 rw[List.set_append,if_neg (by simp;omega)];obtain⟨m,hm⟩:∃m,xs.length-i=m+1:=⟨xs.length-i-1,by omega⟩;rw[hm,List.replicate_succ,show i-((xs.take i).map f).length=0 from by simp;omega,List.set_cons_zero,show xs.length-(i+1)=m from by omega,List.take_succ_eq_append_getElem hi,List.map_append,List.append_assoc]
 rfl
theorem uk {α β:Type}(L:Nat→List β→Int→Option (List β)) (xs:List α) (f:α→β) (z:β)
  (h1:∀ys:List β,Ev (fun k=>L k ys (xs.length:Nat)) ys)
  (h2:∀(i:Nat) (hi:i<xs.length) (ys:List β),ys.length=xs.length→∀R,Ev (fun k=>L k (ys.set i (f xs[i])) ((i+1:Nat):Int)) R→Ev (fun k=>L k ys (i:Nat)) R):
  Ev (fun k=>L k (List.replicate xs.length z) 0) (xs.map f):=by
 have key:∀n i:Nat,xs.length-i=n→i≤xs.length→Ev (fun k=>L k ((xs.take i).map f++List.replicate (xs.length-i) z) (i:Nat)) (xs.map f):=by
  intro n
  induction n with
  |zero=>
   intro i hn hi
   obtain rfl:i=xs.length:=by omega
   simpa using h1 (xs.map f)
  |succ n ih=>
   intro i hn hi;refine h2 i (by omega) _ (by simp;omega) _ ?_;rw[vC xs f z i (by omega)];exact ih (i+1) (by omega) (by omega)
 simpa using key xs.length 0 (by omega) (by omega)
theorem um {γ:Type}(L:Nat→Int→Option γ) (n:Nat) (R:γ) (h1:Ev (fun k=>L k (n:Nat)) R) (h2:∀i:Nat,i<n→Ev (fun k=>L k ((i+1:Nat):Int)) R→Ev (fun k=>L k (i:Nat)) R):Ev (fun k=>L k 0) R:=by
 have key:∀m i:Nat,n-i=m→i≤n→Ev (fun k=>L k (i:Nat)) R:=by
  intro m
  induction m with
  |zero=>
   intro i hm hi
   obtain rfl:i=n:=by omega
   exact h1
  |succ m ih=>
   intro i hm hi;exact h2 i (by omega) (ih (i+1) (by omega) (by omega))
 simpa using key n 0 (by omega) (by omega)
theorem xV {α γ:Type}(L:Nat→Int→Option γ) (xs:List α) (F:List α→γ) (h1:Ev (fun k=>L k (xs.length:Nat)) (F []))
  (h2:∀(i:Nat) (hi:i<xs.length),Ev (fun k=>L k ((i+1:Nat):Int)) (F (xs.drop (i+1)))→Ev (fun k=>L k (i:Nat)) (F (xs[i]::xs.drop (i+1)))):Ev (fun k=>L k 0) (F xs):=by
 have key:∀m i:Nat,xs.length-i=m→i≤xs.length→Ev (fun k=>L k (i:Nat)) (F (xs.drop i)):=by
  intro m
  induction m with
  |zero=>
   intro i hm hi
   obtain rfl:i=xs.length:=by omega
   rw[List.drop_length];exact h1
  |succ m ih=>
   intro i hm hi;rw[List.drop_eq_getElem_cons (by omega)];exact h2 i (by omega) (ih (i+1) (by omega) (by omega))
 simpa using key xs.length 0 (by omega) (by omega)
theorem getD_at {α:Type}(xs:List α) (z:α) (i:Nat) (hi:i<xs.length):xs.getD ((i:Nat):Int).toNat z=xs[i]:=by
 simp[List.getD_eq_getElem?_getD,List.getElem?_eq_getElem hi]
theorem sn {γ:Type}(L:Nat→Int→Int→Option γ) (n:Nat) (I:Nat→Int→Prop) (Z:γ→Prop) (h1:∀a,I n a→∃R,Ev (fun k=>L k a (n:Nat)) R∧Z R)
  (h2:∀(i:Nat) (a:Int),i<n→I i a→(∃R,Ev (fun k=>L k a (i:Nat)) R∧Z R)∨∃b,I (i+1) b∧∀R,Ev (fun k=>L k b ((i+1:Nat):Int)) R→Ev (fun k=>L k a (i:Nat)) R) (a:Int) (ha:I 0 a):∃R,Ev (fun k=>L k a 0) R∧Z R:=by
 have key:∀m i:Nat,n-i=m→i≤n→∀a,I i a→∃R,Ev (fun k=>L k a (i:Nat)) R∧Z R:=by
  intro m
  induction m with
  |zero=>
   intro i hm hi a ha
   obtain rfl:i=n:=by omega
   exact h1 a ha
  |succ m ih=>
   intro i hm hi a ha;rcases h2 i a (by omega) ha with h|⟨b,hb,h⟩
   ·exact h
   ·obtain⟨R,hR,hZ⟩:=ih (i+1) (by omega) (by omega) b hb;exact⟨R,h R hR,hZ⟩
 simpa using key n 0 (by omega) (by omega) a ha
end Go.Proofs.YtlecajlnjmbilaaGreatDoor.Q
namespace Go.Proofs.YtlecajlnjmbilaaGreatDoor.Q
open Go.RowKit Go.Proofs.YtlecajlnjmbilaaGreatDoor.P Go.Proofs.ab.aq Go.Proofs.ab.aH Go.Proofs.ab.aK
def marks (n:Nat) (k:Int):List Int:=(List.range n).map fun(i:Nat)=>(k+(i:Int))%256
theorem gm (n:Nat) (k:Int):(marks n k).length=n:=by simp[marks]
theorem abk (n:Nat) (k:Int) (i:Nat) (h:i<n):rd (marks n k) i=(k+i)%256:=by
 simp[Go.Proofs.ab.aq.rd,marks,h]
theorem abl (xs:List Int) (k:Int) (i:Nat) (h:i<xs.length):(marks i k++xs.drop i).set i ((k+i)%256)=marks (i+1) k++xs.drop (i+1):=by
 rw[List.set_append,if_neg (by rw[gm];omega),gm,Nat.sub_self,List.drop_eq_getElem_cons h,List.set_cons_zero];simp[marks,List.range_succ]
theorem yJ (xs:List Int) (k0:Int) (hk:0≤k0) (hk1:k0+xs.length≤9223372036854775807) (n:Nat):∀(i:Nat),i≤xs.length→xs.length-i=n→
  Ev (fun k=>df.l0 k (marks i k0++xs.drop i) (k0+i) i) (k0+xs.length,marks xs.length k0):=by
 induction n with
 |zero=>
  intro i hi hn
  apply aV
  simp only[df.l0]
  obtain rfl:i=xs.length:=by omega
  refine dg (by simp[gm]) (eW (Ev.now _) ?_);simp
 |succ n ih=>
  intro i hi hn;have ih:=ih (i+1) (by omega) (by omega);rw[show((i+1:Nat):Int)=(i:Int)+1 from by omega]at ih
  apply aV
  simp only[df.l0];refine bo (by simp[gm];omega) (bo (by omega) ?_);rw[Int.toNat_natCast,abl xs k0 i (by omega),lr (n:=k0+(i:Int)+1) (by omega) (by omega),lr (n:=(i:Int)+1) (by omega) (by omega),Int.add_assoc];exact ih
theorem uo (xs:List Int) (k0:Int) (hk:0≤k0) (hk1:k0+xs.length≤9223372036854775807):Ev (fun k=>df.f k xs k0) (k0+xs.length,marks xs.length k0):=by
 have h:=yJ xs k0 hk hk1 xs.length 0 (by omega) (by omega)
 simpa [df.f,marks]using h
theorem yK (m:Nat) (k0:Int) (hk:0≤k0) (hk1:k0+m≤9223372036854775807) (n:Nat):∀(i:Nat),i≤m→m-i=n→
  Ev (fun k=>dq.l0 k (marks m k0) (k0+i) i) (k0+m):=by
 induction n with
 |zero=>
  intro i hi hn
  apply aV
  simp only[dq.l0]
  obtain rfl:i=m:=by omega
  exact dg (by simp[gm]) (Ev.now _)
 |succ n ih=>
  intro i hi hn;have ih:=ih (i+1) (by omega) (by omega);rw[show((i+1:Nat):Int)=(i:Int)+1 from by omega]at ih
  apply aV
  simp only[dq.l0];refine bo (by simp[gm];omega) (bo (by omega) (bo (abk m k0 i (by omega)) ?_));rw[lr (n:=k0+(i:Int)+1) (by omega) (by omega),lr (n:=(i:Int)+1) (by omega) (by omega),Int.add_assoc];exact ih
theorem uq (m:Nat) (k0:Int) (hk:0≤k0) (hk1:k0+m≤9223372036854775807):Ev (fun k=>dq.f k (marks m k0) k0) (k0+m):=by
 have h:=yK m k0 hk hk1 m 0 (by omega) (by omega)
 simpa [dq.f]using h
end Go.Proofs.YtlecajlnjmbilaaGreatDoor.Q
namespace Go.Proofs.YtlecajlnjmbilaaGreatDoor.Q
open Go.RowKit Go.Proofs.YtlecajlnjmbilaaGreatDoor.P Go.Proofs.ab.aq Go.Proofs.ab.aH Go.Proofs.ab.aK
def acj (x:kt):cz:=⟨x.f0,x.f1⟩
def xW (x:ku):ei:=⟨x.f0,x.f1⟩
theorem nK (i:Nat) (n:Nat) (hi:i<n) (hn:n≤9223372036854775807):wrap64 ((i:Int)+1)=((i+1:Nat):Int):=by
 rw[lr (by omega) (by omega)];omega
theorem yL (l:List kt) (hl:l.length≤11728124029610):Ev (fun k=>ew.f k l) (l.map acj):=by
 unfold ew.f;refine bo (by omega) (bo (by omega) ?_);rw[Int.toNat_natCast];refine uk (fun k ys i=>ew.l0 k l ys i) l acj _ (fun ys=> ?_) (fun i hi ys hy R h=> ?_)
 ·apply aV
  simp only[ew.l0];exact dg (by omega) (Ev.now _)
 ·apply aV
  simp only[ew.l0,lF.f,Option.bind_some];refine bo (by omega) (bo (by omega) (bo (by omega) ?_));rw[nK i l.length hi (by omega),Int.toNat_natCast];simp only[iE,getD_at l _ i hi];exact h
theorem w_ (l:List ku) (hl:l.length≤8796093022208):Ev (fun k=>d_.f k l) (l.map xW):=by
 unfold d_.f;refine bo (by omega) (bo (by omega) ?_);rw[Int.toNat_natCast];refine uk (fun k ys i=>d_.l0 k l ys i) l xW _ (fun ys=> ?_) (fun i hi ys hy R h=> ?_)
 ·apply aV
  simp only[d_.l0];exact dg (by omega) (Ev.now _)
 ·apply aV
  simp only[d_.l0,kS.f,Option.bind_some];refine bo (by omega) (bo (by omega) (bo (by omega) ?_));rw[nK i l.length hi (by omega),Int.toNat_natCast];simp only[iu,getD_at l _ i hi];exact h
theorem xa (a b c:Int) (d:List Int) (e:List kt) (t:List ku) (hd:d.length≤1048576) (he:e.length≤1048576) (ht:t.length≤1048576):
  Ev (fun k=>jt.f k a b c d e t) (a,b,c,d,e.map acj,t.map xW):=by
 unfold jt.f;exact Ev.bind (wY d (by omega)) (Ev.bind (yL e (by omega)) (Ev.bind (w_ t (by omega)) (Ev.now _)))
theorem vD (l:List cz) (hl:l.length≤9223372036854775807):Ev (fun k=>cF.f k l l) true:=by
 unfold cF.f;refine bo rfl (um (fun k i=>cF.l0 k l l i) l.length true ?_ (fun i hi h=> ?_))
 ·apply aV
  simp only[cF.l0];exact dg (by omega) (Ev.now _)
 ·apply aV
  simp only[cF.l0,kP.f,if_true,Option.bind_some];refine bo (by omega) (bo (by omega) (bo (by omega) ?_));rw[nK i l.length hi hl];exact h
theorem ur (l:List ei) (hl:l.length≤9223372036854775807):Ev (fun k=>cu.f k l l) true:=by
 unfold cu.f;refine bo rfl (um (fun k i=>cu.l0 k l l i) l.length true ?_ (fun i hi h=> ?_))
 ·apply aV
  simp only[cu.l0];exact dg (by omega) (Ev.now _)
 ·apply aV
  simp only[cu.l0,kc.f,if_true,Option.bind_some];refine bo (by omega) (bo (by omega) (bo (by omega) ?_));rw[nK i l.length hi hl];exact h
theorem uu (a b c:Int) (d:List Int) (e:List cz) (t:List ei) (hd:d.length≤9223372036854775807) (he:e.length≤9223372036854775807) (ht:t.length≤9223372036854775807):
  Ev (fun k=>iN.f k a b c d e t a b c d e t) true:=by
 unfold iN.f;refine bo rfl (bo rfl (bo rfl (Ev.bind (wZ d d hd) (bo (by simp) (Ev.bind (vD e he) (bo rfl (Ev.bind (ur t ht) (bo rfl (Ev.now _)))))))))
theorem xb (d:List Int) (n:Int) (h0:0≤n) (h1:n≤1048576) (hd:d.length≤9223372036854775807):∃R,gi.f d n=some R∧(0≤R→R=n-d.length)∧R≤n:=by
 unfold gi.f;rw[lr (by omega) (by omega)]
 by_cases h:n-(d.length:Int)<0
 ·rw[if_pos h];exact⟨_,rfl,fun h=>by omega,by omega⟩
 ·rw[if_neg h];exact⟨_,rfl,fun _=>rfl,by omega⟩
def xX (l:List kt):Nat:=(l.map fun e=>e.f0.size).sum
def uv (l:List ku):Nat:=(l.map fun e=>e.f0.size+e.f1.size).sum
theorem so {α:Type}(f:α→Nat) (l:List α) (i:Nat) (hi:i<l.length):((l.take (i+1)).map f).sum=((l.take i).map f).sum+f l[i]:=by
 rw[List.take_succ_eq_append_getElem hi,List.map_append,List.sum_append];simp
theorem yM (l:List kt) (n:Int) (h0:0≤n) (h1:n≤1048576) (hl:l.length≤9223372036854775807) (hg:∀e∈l,e.f0.size≤9223372036854775807):
  ∃R,Ev (fun k=>er.f k l n) R∧(0≤R→R=n-l.length-xX l)∧R≤n:=by
 unfold er.f;rw[lr (by omega) (by omega)]
 by_cases h:n-(l.length:Int)<0
 ·exact⟨-1,bo h (Ev.now _),fun h=>by omega,by omega⟩
 ·obtain⟨R,hR,hZ⟩:=sn (fun k a i=>er.l0 k l a i) l.length (fun i a=>0≤a∧a=n-l.length-((l.take i).map fun e=>e.f0.size).sum) (fun R=>(0≤R→R=n-l.length-xX l)∧R≤n)
   (fun a ha=>⟨a,by
    apply aV
    simp only[er.l0]
    exact dg (by omega) (Ev.now _),fun _=>by rw[ha.2,List.take_length];rfl,by omega⟩)
   (fun i a hi ha=>by
    have hm:=hg l[i] (List.getElem_mem hi);have hs:=so (fun e:kt=>e.f0.size) l i hi
    by_cases hlt:a-(l[i].f0.size:Int)<0
    ·refine .inl ⟨-1,?_,fun h=>by omega,by omega⟩
     apply aV
     simp only[er.l0,kd.f,iE,getD_at l _ i hi];rw[lr (n:=a-(l[i].f0.size:Int)) (by omega) (by omega),if_pos hlt];simp only[Option.bind_some];exact bo (by omega) (bo (by omega) (bo (by omega) (Ev.now _)))
    ·refine .inr ⟨a-(l[i].f0.size:Int),⟨by omega,by rw[hs];omega⟩,fun R h=> ?_⟩
     apply aV
     simp only[er.l0,kd.f,iE,getD_at l _ i hi];rw[lr (n:=a-(l[i].f0.size:Int)) (by omega) (by omega),if_neg hlt];simp only[Option.bind_some];refine bo (by omega) (bo (by omega) (dg (by omega) ?_));rw[nK i l.length hi hl]
     exact h) (n-l.length) ⟨by omega,by simp⟩
  exact⟨R,dg h hR,hZ⟩
theorem xc (l:List ku) (n:Int) (h0:0≤n) (h1:n≤1048576) (hl:l.length≤9223372036854775807) (hg:∀e∈l,e.f0.size≤9223372036854775807∧e.f1.size≤9223372036854775807):
  ∃R,Ev (fun k=>dt.f k l n) R∧(0≤R→R=n-l.length-uv l)∧R≤n:=by
 unfold dt.f;rw[lr (by omega) (by omega)]
 by_cases h:n-(l.length:Int)<0
 ·exact⟨-1,bo h (Ev.now _),fun h=>by omega,by omega⟩
 ·obtain⟨R,hR,hZ⟩:=sn (fun k a i=>dt.l0 k l a i) l.length (fun i a=>0≤a∧a=n-l.length-((l.take i).map fun e=>e.f0.size+e.f1.size).sum) (fun R=>(0≤R→R=n-l.length-uv l)∧R≤n)
   (fun a ha=>⟨a,by
    apply aV
    simp only[dt.l0]
    exact dg (by omega) (Ev.now _),fun _=>by rw[ha.2,List.take_length];rfl,by omega⟩)
   (fun i a hi ha=>by
    have hm:=hg l[i] (List.getElem_mem hi);have hs:=so (fun e:ku=>e.f0.size+e.f1.size) l i hi
    by_cases hlt:a-(l[i].f0.size:Int)<0
    ·refine .inl ⟨-1,?_,fun h=>by omega,by omega⟩
     apply aV
     simp only[dt.l0,iM.f,iu,getD_at l _ i hi];rw[lr (n:=a-(l[i].f0.size:Int)) (by omega) (by omega),if_pos hlt];simp only[Option.bind_some];exact bo (by omega) (bo (by omega) (bo (by omega) (Ev.now _)))
    ·by_cases hlt2:a-(l[i].f0.size:Int)-(l[i].f1.size:Int)<0
     ·refine .inl ⟨-1,?_,fun h=>by omega,by omega⟩
      apply aV
      simp only[dt.l0,iM.f,iu,getD_at l _ i hi];rw[lr (n:=a-(l[i].f0.size:Int)) (by omega) (by omega),if_neg hlt,lr (n:=a-(l[i].f0.size:Int)-(l[i].f1.size:Int)) (by omega) (by omega),if_pos hlt2];simp only[Option.bind_some];exact bo (by omega) (bo (by omega) (bo (by omega) (Ev.now _)))
     ·refine .inr ⟨a-(l[i].f0.size:Int)-(l[i].f1.size:Int),⟨by omega,by rw[hs];omega⟩,fun R h=> ?_⟩
      apply aV
      simp only[dt.l0,iM.f,iu,getD_at l _ i hi];rw[lr (n:=a-(l[i].f0.size:Int)) (by omega) (by omega),if_neg hlt,lr (n:=a-(l[i].f0.size:Int)-(l[i].f1.size:Int)) (by omega) (by omega),if_neg hlt2];simp only[Option.bind_some];refine bo (by omega) (bo (by omega) (dg (by omega) ?_));rw[nK i l.length hi hl]
      exact h) (n-l.length) ⟨by omega,by simp⟩
  exact⟨R,dg h hR,hZ⟩
def qc (d:List Int) (e:List kt) (t:List ku):Nat:=d.length+e.length+xX e+t.length+uv t
theorem xd (a b c:Int) (d:List Int) (e:List kt) (t:List ku) (n:Int) (h0:0≤n) (h1:n≤1048576) (hd:d.length≤9223372036854775807) (he:e.length≤9223372036854775807) (ht:t.length≤9223372036854775807)
  (ge:∀x∈e,x.f0.size≤9223372036854775807) (gt:∀x∈t,x.f0.size≤9223372036854775807∧x.f1.size≤9223372036854775807):
  ∃R,Ev (fun k=>iO.f k a b c d e t n) R∧(0≤R→R=n-qc d e t)∧R≤n:=by
 unfold iO.f;obtain⟨R1,e1,z1,l1⟩:=xb d n h0 h1 hd;simp only[e1,Option.bind_some]
 by_cases c1:R1<0
 ·exact⟨-1,bo c1 (Ev.now _),fun h=>by omega,by omega⟩
 obtain⟨R2,e2,z2,l2⟩:=yM e R1 (by omega) (by omega) he ge
 by_cases c2:R2<0
 ·exact⟨-1,dg c1 (Ev.bind e2 (bo c2 (Ev.now _))),fun h=>by omega,by omega⟩
 obtain⟨R3,e3,z3,l3⟩:=xc t R2 (by omega) (by omega) ht gt
 by_cases c3:R3<0
 ·exact⟨-1,dg c1 (Ev.bind e2 (dg c2 (Ev.bind e3 (bo c3 (Ev.now _))))),fun h=>by omega,by omega⟩
 ·refine⟨R3,dg c1 (Ev.bind e2 (dg c2 (Ev.bind e3 (dg c3 (Ev.now _))))),fun h=> ?_,by omega⟩;have:=z1 (by omega);have:=z2 (by omega);have:=z3 (by omega);unfold qc
  omega
end Go.Proofs.YtlecajlnjmbilaaGreatDoor.Q
namespace Go.Proofs.YtlecajlnjmbilaaGreatDoor.Q
open Go.RowKit Go.Proofs.YtlecajlnjmbilaaGreatDoor.P Go.Proofs.ab.aq Go.Proofs.ab.aH Go.Proofs.ab.aK
theorem down {n:Nat}{P:Nat→Prop}(h1:P n) (h2:∀i,i<n→P (i+1)→P i):P 0:=by
 have key:∀m i:Nat,n-i=m→i≤n→P i:=by
  intro m
  induction m with
  |zero=>
   intro i hm hi
   obtain rfl:i=n:=by omega
   exact h1
  |succ m ih=>intro i hm hi;exact h2 i (by omega) (ih (i+1) (by omega) (by omega))
 exact key n 0 (by omega) (by omega)
def kj (x:nD):bf:=⟨x.f0,x.f1,x.f2,x.f3,x.f4.map acj,x.f5.map xW⟩
def adz (x:nD):Prop:=x.f3.length≤1048576∧x.f4.length≤1048576∧x.f5.length≤1048576
theorem vE (l:List nD) (hl:l.length≤1048576) (hb:∀x∈l,adz x):Ev (fun k=>dm.f k l) (l.map kj):=by
 unfold dm.f;refine bo (by omega) (bo (by omega) ?_);rw[Int.toNat_natCast];refine uk (fun k ys i=>dm.l0 k l ys i) l kj _ (fun ys=> ?_) (fun i hi ys hy R h=> ?_)
 ·apply aV
  simp only[dm.l0];exact dg (by omega) (Ev.now _)
 ·have hB:=hb l[i] (List.getElem_mem hi);have ht:=xa l[i].f0 l[i].f1 l[i].f2 l[i].f3 l[i].f4 l[i].f5 hB.1 hB.2.1 hB.2.2
  apply aV
  simp only[dm.l0,cJ,getD_at l _ i hi];refine bo (by omega) (bo (by omega) (Ev.bind ht (bo (by omega) ?_)));rw[nK i l.length hi (by omega),Int.toNat_natCast];exact h
theorem abe (l:List nD) (n:Int) (hl:l.length≤1048576) (hb:∀x∈l,adz x):Ev (fun k=>iT.f k l n) (l.map kj,n):=by
 unfold iT.f;exact Ev.bind (vE l hl hb) (Ev.now _)
theorem sZ (l:List bf) (hl:l.length≤9223372036854775807) (hb:∀x∈l,x.f3.length≤9223372036854775807∧x.f4.length≤9223372036854775807∧x.f5.length≤9223372036854775807):Ev (fun k=>ch.f k l l) true:=by
 unfold ch.f;refine bo rfl ?_;refine um (fun k i=>ch.l0 k l l i) l.length true ?_ (fun i hi h=> ?_)
 ·apply aV
  simp only[ch.l0];exact dg (by omega) (Ev.now _)
 ·have hB:=hb l[i] (List.getElem_mem hi)
  apply aV
  simp only[ch.l0,af,getD_at l _ i hi];refine bo (by omega) (bo (by omega) (bo (by omega) (Ev.bind (uu _ _ _ _ _ _ hB.1 hB.2.1 hB.2.2) (bo rfl ?_))));rw[nK i l.length hi hl];exact h
theorem sq (l:List bf) (n:Int) (hl:l.length≤9223372036854775807) (hb:∀x∈l,x.f3.length≤9223372036854775807∧x.f4.length≤9223372036854775807∧x.f5.length≤9223372036854775807):Ev (fun k=>ga.f k l n l n) true:=by
 unfold ga.f;exact Ev.bind (sZ l hl hb) (bo rfl (bo rfl (Ev.now _)))
def adA (x:nD):Prop:=x.f3.length≤9223372036854775807∧x.f4.length≤9223372036854775807∧x.f5.length≤9223372036854775807∧(∀e∈x.f4,e.f0.size≤9223372036854775807)∧(∀e∈x.f5,e.f0.size≤9223372036854775807∧e.f1.size≤9223372036854775807)
def qd (x:nD):Nat:=qc x.f3 x.f4 x.f5
def qS (l:List nD):Nat:=l.length+(l.map qd).sum
theorem vF (l:List nD) (n:Int) (h0:0≤n) (h1:n≤1048576) (hl:l.length≤9223372036854775807) (hg:∀x∈l,adA x):
  ∃R,Ev (fun k=>dk.f k l n) R∧(0≤R→R=n-qS l)∧R≤n:=by
 unfold dk.f;rw[lr (by omega) (by omega)]
 by_cases h:n-(l.length:Int)<0
 ·exact⟨-1,bo h (Ev.now _),fun h=>by omega,by omega⟩
 ·obtain⟨R,hR,hZ⟩:=sn (fun k a i=>dk.l0 k l a i) l.length (fun i a=>0≤a∧a≤n∧a=n-l.length-((l.take i).map qd).sum) (fun R=>(0≤R→R=n-qS l)∧R≤n)
   (fun a ha=>⟨a,by
    apply aV
    simp only[dk.l0]
    exact dg (by omega) (Ev.now _),fun _=>by rw[ha.2.2,List.take_length];unfold qS;omega,by omega⟩)
   (fun i a hi ha=>by
    obtain⟨m1,m2,m3,m4,m5⟩:=hg l[i] (List.getElem_mem hi);have hs:=so qd l i hi;obtain⟨R1,e1,z1,l1⟩:=xd l[i].f0 l[i].f1 l[i].f2 l[i].f3 l[i].f4 l[i].f5 a ha.1 (by omega) m1 m2 m3 m4 m5
    by_cases hlt:R1<0
    ·refine .inl ⟨-1,?_,fun h=>by omega,by omega⟩
     apply aV
     simp only[dk.l0,cJ,getD_at l _ i hi];exact bo (by omega) (bo (by omega) (Ev.bind e1 (bo hlt (Ev.now _))))
    ·have z1:=z1 (by omega);refine .inr ⟨R1,⟨by omega,by omega,by rw[hs];unfold qd at*;omega⟩,fun R h=> ?_⟩
     apply aV
     simp only[dk.l0,cJ,getD_at l _ i hi];refine bo (by omega) (bo (by omega) (Ev.bind e1 (dg hlt ?_)));rw[nK i l.length hi hl]
     exact h) (n-l.length) ⟨by omega,by omega,by simp⟩
  exact⟨R,dg h hR,hZ⟩
theorem abc (l:List nD) (nx n:Int) (h0:0≤n) (h1:n≤1048576) (hl:l.length≤9223372036854775807) (hg:∀x∈l,adA x):
  ∃R,Ev (fun k=>jz.f k l nx n) R∧(0≤R→R=n-qS l)∧R≤n:=by
 obtain⟨R,e,z,h⟩:=vF l n h0 h1 hl hg;unfold jz.f
 by_cases c:R<0
 ·exact⟨-1,Ev.bind e (bo c (Ev.now _)),fun h=>by omega,by omega⟩
 ·exact⟨R,Ev.bind e (dg c (Ev.now _)),z,h⟩
theorem pN {α:Type}(f:α→Nat) (l:List α) (x:α) (h:x∈l):f x≤(l.map f).sum:=by
 induction l with
 |nil=>cases h
 |cons y l ih=>
  rw[List.map_cons,List.sum_cons];rcases List.mem_cons.1 h with rfl|h
  ·omega
  ·have:=ih h;omega
structure ack (x:nD):Prop where
 d:x.f3.length≤1048576
 e:x.f4.length≤1048576
 t:x.f5.length≤1048576
 en:∀y∈x.f4,y.f0.size≤1048576
 tn:∀y∈x.f5,y.f0.size≤1048576∧y.f1.size≤1048576
theorem acm (x:nD) (h:qd x≤1048576):ack x:=by
 unfold qd qc at h;refine⟨by omega,by omega,by omega,fun y hy=> ?_,fun y hy=> ?_⟩
 ·have:=pN (fun e:kt=>e.f0.size) x.f4 y hy;unfold xX at h
  omega
 ·have:=pN (fun e:ku=>e.f0.size+e.f1.size) x.f5 y hy;unfold uv at h
  omega
theorem yH (l:List nD) (h:qS l≤1048576):l.length≤1048576∧∀x∈l,ack x:=by
 unfold qS at h;refine⟨by omega,fun x hx=>acm x ?_⟩;have:=pN qd l x hx
 omega
end Go.Proofs.YtlecajlnjmbilaaGreatDoor.Q
namespace Go.Proofs.YtlecajlnjmbilaaGreatDoor.Q
open Go.RowKit Go.Proofs.YtlecajlnjmbilaaGreatDoor.P Go.Proofs.YtlecajlnjmbilaaGreatDoor.Kinds Go.Proofs.ab.aq Go.Proofs.ab.aH Go.Proofs.ab.aK
theorem abd (l:List nD) (h:∀x∈l,g92 x):∀x∈l,adA x:=by
 intro x hx;obtain⟨_,_,_,⟨hd,_⟩,⟨he,ge⟩,⟨ht,gt⟩⟩:=h x hx;have hM:maxLen=9223372036854775807:=rfl;simp only[hM]at*;exact⟨hd,he,ht,fun e h=>(ge e h).1,fun e h=>gt e h⟩
theorem acf (l:List nD) (h:∀x∈l,ack x):∀x∈l,adz x:=fun x hx=>⟨(h x hx).d,(h x hx).e,(h x hx).t⟩
end Go.Proofs.YtlecajlnjmbilaaGreatDoor.Q
namespace Go.Proofs.YtlecajlnjmbilaaGreatDoor.Q
open Go.RowKit Go.Proofs.YtlecajlnjmbilaaGreatDoor.P Go.Proofs.ab.aq Go.Proofs.ab.aH Go.Proofs.ab.aK
def aed (a b:ByteArray):Bool:=Op.bytesLess a.toList b.toList
def upTo (p:Option ByteArray) (s:ByteArray):Bool:=match p with|none=>true|some q=>aed q s
def lY:Option ByteArray→List cz→Bool
 |_,[]=>true
 |p,e::l=>gh e.f0&&decide (2≤e.f1∧e.f1≤1000)&&upTo p e.f0&&lY (some e.f0) l
def ny:Option ByteArray→List ei→Bool
 |_,[]=>true
 |p,e::l=>gh e.f0&&decide (1≤e.f1.size∧e.f1.size≤16)&&upTo p e.f0&&ny (some e.f0) l
def jx (l:List cz) (i:Nat):Option ByteArray:=if i=0 then none else some (al l ((i:Int)-1)).f0
def iR (l:List ei) (i:Nat):Option ByteArray:=if i=0 then none else some (av l ((i:Int)-1)).f0
theorem qe (l:List cz) (i:Nat) (h:i<l.length):jx l (i+1)=some l[i].f0:=by
 unfold jx;rw[if_neg (by omega),show(((i+1:Nat):Int)-1)=(i:Int)from by omega,al,getD_at l _ i h]
theorem py (l:List ei) (i:Nat) (h:i<l.length):iR l (i+1)=some l[i].f0:=by
 unfold iR;rw[if_neg (by omega),show(((i+1:Nat):Int)-1)=(i:Int)from by omega,av,getD_at l _ i h]
def oV (l:List cz):Bool:=lY none l&&decide (l.length≤10)
def nY (l:List ei):Bool:=ny none l&&decide (l.length≤4)
theorem yN (l:List cz) (hl:l.length≤1048576) (hn:∀e∈l,e.f0.size≤1048576):Ev (fun k=>eg.f k l) (oV l):=by
 have key:Ev (fun k=>eg.l0 k l (0:Nat)) (lY (jx l 0) (l.drop 0)&&decide (l.length≤10)):=by
  refine down (n:=l.length) (P:=fun i=>Ev (fun k=>eg.l0 k l (i:Nat)) (lY (jx l i) (l.drop i)&&decide (l.length≤10))) ?_ (fun i hi h=> ?_)
  ·rw[List.drop_length]
   apply aV
   simp only[eg.l0,lY];refine dg (by omega) (eW (Ev.now _) ?_);simp;omega
  ·rw[List.drop_eq_getElem_cons hi];rw[qe l i hi]at h
   apply aV
   simp only[eg.l0];refine bo (by omega) ?_;have hname:=mj l[i].f0 (by have:=hn _ (List.getElem_mem hi);omega);have hrd:al l (i:Int)=l[i]:=getD_at l _ i hi;rw[hrd,nK i l.length hi (by omega)];simp only[lY,ph,Option.bind_some];refine bo (by omega) (Ev.bind hname ?_)
   by_cases c1:gh l[i].f0=true
   ·refine bo c1 ?_
    by_cases c2:2≤l[i].f1∧l[i].f1≤1000
    ·refine bo (by simp[c2]) ?_
     by_cases c3:i=0
     ·subst c3;refine dg (by omega) (eW h ?_);simp[c1,c2,jx,upTo]
     ·rw[lr (n:=(i:Int)-1) (by omega) (by omega)]
      have hu:upTo (jx l i) l[i].f0=Op.bytesLess (al l ((i:Int)-1)).f0.toList l[i].f0.toList:=by unfold jx;rw[if_neg c3];rfl
      refine bo (by omega) (bo (by omega) (bo (by omega) ?_))
      by_cases c4:Op.bytesLess (al l ((i:Int)-1)).f0.toList l[i].f0.toList=true
      ·refine bo c4 (eW h ?_);simp[c1,c2,hu,c4]
      ·refine dg c4 (eW (Ev.now _) ?_);simp[hu,c4]
    ·refine dg (by simp;omega) (eW (Ev.now _) ?_);have:decide (2≤l[i].f1∧l[i].f1≤1000)=false:=decide_eq_false c2;simp[this]
   ·refine dg c1 (eW (Ev.now _) ?_);simp[c1]
 simpa [eg.f,oV,jx]using key
theorem xe (l:List ei) (hl:l.length≤1048576) (hn:∀e∈l,e.f0.size≤1048576):Ev (fun k=>du.f k l) (nY l):=by
 have key:Ev (fun k=>du.l0 k l (0:Nat)) (ny (iR l 0) (l.drop 0)&&decide (l.length≤4)):=by
  refine down (n:=l.length) (P:=fun i=>Ev (fun k=>du.l0 k l (i:Nat)) (ny (iR l i) (l.drop i)&&decide (l.length≤4))) ?_ (fun i hi h=> ?_)
  ·rw[List.drop_length]
   apply aV
   simp only[du.l0,ny];refine dg (by omega) (eW (Ev.now _) ?_);simp;omega
  ·rw[List.drop_eq_getElem_cons hi];rw[py l i hi]at h
   apply aV
   simp only[du.l0];refine bo (by omega) ?_;have hname:=mj l[i].f0 (by have:=hn _ (List.getElem_mem hi);omega);have hrd:av l (i:Int)=l[i]:=getD_at l _ i hi;rw[hrd,nK i l.length hi (by omega)];simp only[ny,ph,Option.bind_some];refine bo (by omega) (Ev.bind hname ?_)
   by_cases c1:gh l[i].f0=true
   ·refine bo c1 ?_
    by_cases c2:1≤l[i].f1.size∧l[i].f1.size≤16
    ·refine bo (by simp;omega) ?_
     by_cases c3:i=0
     ·subst c3;refine dg (by omega) (eW h ?_);simp[c1,c2,iR,upTo]
     ·rw[lr (n:=(i:Int)-1) (by omega) (by omega)]
      have hu:upTo (iR l i) l[i].f0=Op.bytesLess (av l ((i:Int)-1)).f0.toList l[i].f0.toList:=by unfold iR;rw[if_neg c3];rfl
      refine bo (by omega) (bo (by omega) (bo (by omega) ?_))
      by_cases c4:Op.bytesLess (av l ((i:Int)-1)).f0.toList l[i].f0.toList=true
      ·refine bo c4 (eW h ?_);simp[c1,c2,hu,c4]
      ·refine dg c4 (eW (Ev.now _) ?_);simp[hu,c4]
    ·refine dg (by simp;omega) (eW (Ev.now _) ?_);have:decide (1≤l[i].f1.size∧l[i].f1.size≤16)=false:=decide_eq_false c2;simp[this]
   ·refine dg c1 (eW (Ev.now _) ?_);simp[c1]
 simpa [du.f,nY,iR]using key
theorem qf (a b c:Int):bx.f a b c=some (decide (b≤a∧a≤c)):=by
 unfold bx.f
 by_cases h:a≥b
 ·rw[if_pos h];simp[show b≤a from h]
 ·rw[if_neg h];simp[show¬b≤a from h]
theorem xf (l:List ei) (hl:l.length≤1048576) (hn:∀e∈l,e.f0.size≤1048576):Ev (fun k=>db.f k l) (nY l):=by
 have key:Ev (fun k=>db.l0 k l l (l.length:Int) (0:Nat)) (ny (iR l 0) (l.drop 0)&&decide (l.length≤4)):=by
  refine down (n:=l.length) (P:=fun i=>Ev (fun k=>db.l0 k l l (l.length:Int) (i:Nat)) (ny (iR l i) (l.drop i)&&decide (l.length≤4))) ?_ (fun i hi h=> ?_)
  ·rw[List.drop_length]
   apply aV
   simp only[db.l0,ny];refine dg (by omega) (eW (Ev.now _) ?_);simp;omega
  ·rw[List.drop_eq_getElem_cons hi];rw[py l i hi]at h
   apply aV
   simp only[db.l0];refine bo (by omega) ?_;have hname:=qA l[i].f0 (by have:=hn _ (List.getElem_mem hi);omega);have hrd:av l (i:Int)=l[i]:=getD_at l _ i hi;rw[hrd,nK i l.length hi (by omega)];simp only[ny,qf,Option.bind_some];refine bo (by omega) (bo (by omega) (Ev.bind hname ?_))
   by_cases c1:gh l[i].f0=true
   ·refine bo c1 ?_
    by_cases c2:1≤l[i].f1.size∧l[i].f1.size≤16
    ·refine bo (by simp;omega) ?_
     by_cases c3:i=0
     ·subst c3;refine dg (by omega) (eW h ?_);simp[c1,c2,iR,upTo]
     ·rw[lr (n:=(i:Int)-1) (by omega) (by omega)]
      have hu:upTo (iR l i) l[i].f0=Op.bytesLess (av l ((i:Int)-1)).f0.toList l[i].f0.toList:=by unfold iR;rw[if_neg c3];rfl
      refine bo (by omega) (bo (by omega) (bo (by omega) ?_))
      by_cases c4:Op.bytesLess (av l ((i:Int)-1)).f0.toList l[i].f0.toList=true
      ·refine bo c4 (eW h ?_);simp[c1,c2,hu,c4]
      ·refine dg c4 (eW (Ev.now _) ?_);simp[hu,c4]
    ·refine dg (by simp;omega) (eW (Ev.now _) ?_);have:decide (1≤l[i].f1.size∧l[i].f1.size≤16)=false:=decide_eq_false c2;simp[this]
   ·refine dg c1 (eW (Ev.now _) ?_);simp[c1]
 simpa [db.f,nY,iR]using key
def kindOk (b c:Int) (d:List Int) (e:List cz):Bool:=if b=1 then e.length==0 else if b=2 then d.length==0&&decide (c≤1)else false
def iy (a b c:Int) (d:List Int) (e:List cz) (t:List ei):Bool:=
 decide (1≤a∧a≤1000)&&decide (0≤c∧c≤1000)&&((c==0)==(a==1))&&decide (d.length≤100)&&oV e&&nY t&&kindOk b c d e
theorem qB (b c:Int) (d:List Int) (e:List cz):(if b=1 then(some ((e.length:Int)==0))else(if b=2 then(if(d.length:Int)=0 then(some (decide (c≤1)))else(some false))else(some false)))=some (kindOk b c d e):=by
 unfold kindOk
 have h1:((e.length:Int)==0)=(e.length==0):=by rw[Bool.eq_iff_iff];simp only[beq_iff_eq];omega
 by_cases hb:b=1
 ·rw[if_pos hb,if_pos hb,h1]
 ·rw[if_neg hb,if_neg hb]
  by_cases hb2:b=2
  ·rw[if_pos hb2,if_pos hb2]
   by_cases hd:d.length=0
   ·rw[if_pos (by omega)];simp[hd]
   ·rw[if_neg (by omega)];simp[hd]
  ·rw[if_neg hb2,if_neg hb2]
theorem qC (x y:Bool):(x !=y)= !(x==y):=rfl
theorem uw (a b c:Int) (d:List Int) (e:List cz) (t:List ei) (he:e.length≤1048576) (ht:t.length≤1048576) (hen:∀x∈e,x.f0.size≤1048576) (htn:∀x∈t,x.f0.size≤1048576):
  Ev (fun k=>cK.f k a b c d e t) (iy a b c d e t):=by
 unfold cK.f;simp only[ph,Option.bind_some]
 have no:∀r:Bool,r=false→Ev (fun k=>cK.j0 k true a b c d e t) r:=by
  intro r hr
  try(apply aV;simp only[cK.j0,qB])
  exact bo (by simp) (eW (Ev.now _) hr.symm)
 by_cases c1:1≤a∧a≤1000
 ·refine bo (by simp[c1]) ?_
  by_cases c2:0≤c∧c≤1000
  ·refine bo (by simp[c2]) ?_
   by_cases c3:((c==0)==(a==1))=true
   ·refine dg (by rw[qC,c3];simp) ?_
    by_cases c4:d.length≤100
    ·refine dg (by omega) (Ev.bind (yN e he hen) ?_)
     by_cases c5:oV e=true
     ·refine bo c5 (Ev.bind (xe t ht htn) ?_)
      try(apply aV;simp only[cK.j0,qB])
      by_cases c6:nY t=true
      ·refine dg (by simp[c6]) ?_;refine eW (Ev.now _) ?_;unfold iy;simp only[c1,c2,c3,c4,c5,c6,and_self,decide_true,Bool.true_and]
      ·refine bo (by simp[c6]) (eW (Ev.now _) ?_);simp[iy,c6]
     ·exact dg c5 (no _ (by simp[iy,c5]))
    ·exact bo (by omega) (no _ (by simp[iy,c4]))
   ·refine bo (by rw[qC];simpa using c3) (no _ ?_);unfold iy;rw[Bool.not_eq_true]at c3;simp[c3]
  ·refine dg (by simp;omega) (no _ ?_);have:decide (0≤c∧c≤1000)=false:=decide_eq_false c2;simp[iy,this]
 ·refine dg (by simp;omega) (no _ ?_);have:decide (1≤a∧a≤1000)=false:=decide_eq_false c1;simp[iy,this]
theorem rm (a b c:Int) (d:List Int) (l:List cz) (t:List ei) (hl:l.length≤1048576) (hn:∀x∈l,x.f0.size≤1048576):
  Ev (fun k=>bm.l0 k l (l.length:Int) 0 a b c d l t) (lY none l&&(decide (0≤c∧c≤1000)&&((c==0)==(a==1))&&kindOk b c d l)):=by
 generalize hE:(decide (0≤c∧c≤1000)&&((c==0)==(a==1))&&kindOk b c d l)=E
 have key:Ev (fun k=>bm.l0 k l (l.length:Int) (0:Nat) a b c d l t) (lY (jx l 0) (l.drop 0)&&E):=by
  refine down (n:=l.length) (P:=fun i=>Ev (fun k=>bm.l0 k l (l.length:Int) (i:Nat) a b c d l t) (lY (jx l i) (l.drop i)&&E)) ?_ (fun i hi h=> ?_)
  ·rw[List.drop_length]
   apply aV
   simp only[bm.l0,lY,qf,Option.bind_some];refine dg (by omega) ?_
   have fin:∀x:Bool,(x= !(((c==0)==(a==1))&&decide (0≤c∧c≤1000)))→Ev (fun k=>bm.j2 k x a b c d l t) (true&&E):=by
    intro x hx
    try(apply aV;simp only[bm.j2,qB])
    by_cases cx:x=true
    ·refine bo cx (eW (Ev.now _) ?_);rw[cx]at hx
     have:(((c==0)==(a==1))&&decide (0≤c∧c≤1000))=false:=by
      cases hz:(((c==0)==(a==1))&&decide (0≤c∧c≤1000))with
      |false=>rfl
      |true=>rw[hz]at hx;exact absurd hx (by decide)
     rw[←hE,Bool.and_comm (decide _),this];simp
    ·refine dg cx ?_;refine eW (Ev.now _) ?_
     have:(((c==0)==(a==1))&&decide (0≤c∧c≤1000))=true:=by cases hz:(((c==0)==(a==1))&&decide (0≤c∧c≤1000))<;>simp_all
     rw[←hE,Bool.and_comm (decide _),this];simp
   by_cases c2:0≤c∧c≤1000
   ·exact bo (by simp[c2]) (fin _ (by rw[qC];simp[c2]))
   ·exact dg (by simp;omega) (fin _ (by have:decide (0≤c∧c≤1000)=false:=decide_eq_false c2;simp[this]))
  ·rw[List.drop_eq_getElem_cons hi];rw[qe l i hi]at h
   apply aV
   simp only[bm.l0];refine bo (by omega) ?_;have hname:=qA l[i].f0 (by have:=hn _ (List.getElem_mem hi);omega);have hrd:al l (i:Int)=l[i]:=getD_at l _ i hi;rw[hrd,nK i l.length hi (by omega)];simp only[lY,qf,Option.bind_some];refine bo (by omega) (bo (by omega) (Ev.bind hname ?_))
   by_cases c1:gh l[i].f0=true
   ·refine bo c1 ?_
    by_cases c2:2≤l[i].f1∧l[i].f1≤1000
    ·refine bo (by simp[c2]) ?_
     by_cases c3:i=0
     ·subst c3;refine dg (by omega) (eW h ?_);simp[c1,c2,jx,upTo]
     ·rw[lr (n:=(i:Int)-1) (by omega) (by omega)]
      have hu:upTo (jx l i) l[i].f0=Op.bytesLess (al l ((i:Int)-1)).f0.toList l[i].f0.toList:=by unfold jx;rw[if_neg c3];rfl
      refine bo (by omega) (bo (by omega) (bo (by omega) ?_))
      by_cases c4:Op.bytesLess (al l ((i:Int)-1)).f0.toList l[i].f0.toList=true
      ·refine bo c4 (eW h ?_);simp[c1,c2,hu,c4]
      ·refine dg c4 (eW (Ev.now _) ?_);simp[hu,c4]
    ·refine dg (by simp;omega) (eW (Ev.now _) ?_);have:decide (2≤l[i].f1∧l[i].f1≤1000)=false:=decide_eq_false c2;simp[this]
   ·refine dg c1 (eW (Ev.now _) ?_);simp[c1]
 simpa [jx]using key
theorem ux (a b c:Int) (d:List Int) (e:List cz) (t:List ei) (he:e.length≤1048576) (ht:t.length≤1048576) (hen:∀x∈e,x.f0.size≤1048576) (htn:∀x∈t,x.f0.size≤1048576):
  Ev (fun k=>bm.f k a b c d e t) (iy a b c d e t):=by
 unfold bm.f;simp only[qf,Option.bind_some]
 have no:∀r:Bool,r=false→Ev (fun k=>bm.j0 k true a b c d e t) r:=by
  intro r hr
  try(apply aV;simp only[bm.j0])
  exact bo (by simp) (eW (Ev.now _) hr.symm)
 by_cases c1:1≤a∧a≤1000
 ·refine bo (by simp[c1]) ?_
  by_cases c4:d.length≤100
  ·refine dg (by omega) ?_
   by_cases c5:e.length≤10
   ·refine dg (by omega) (Ev.bind (xf t ht htn) ?_)
    try(apply aV;simp only[bm.j0])
    by_cases c6:nY t=true
    ·refine dg (by simp[c6]) ?_;refine eW (rm a b c d e t he hen) ?_;unfold iy oV;simp only[c1,c4,c5,c6,and_self,decide_true,Bool.true_and,Bool.and_true]
     cases lY none e<;>cases decide (0≤c∧c≤1000)<;>cases ((c==0)==(a==1))<;>cases kindOk b c d e<;>rfl
    ·refine bo (by simp[c6]) (eW (Ev.now _) ?_);simp[iy,c6]
   ·exact bo (by omega) (no _ (by simp[iy,oV,c5]))
  ·exact bo (by omega) (no _ (by simp[iy,c4]))
 ·refine dg (by simp;omega) (no _ ?_);have:decide (1≤a∧a≤1000)=false:=decide_eq_false c1;simp[iy,this]
end Go.Proofs.YtlecajlnjmbilaaGreatDoor.Q
namespace Go.Proofs.YtlecajlnjmbilaaGreatDoor.Q
open Go.RowKit Go.Proofs.YtlecajlnjmbilaaGreatDoor.P Go.Proofs.ab.aq Go.Proofs.ab.aH Go.Proofs.ab.aK
def sr (x:bf):Bool:=iy x.f0 x.f1 x.f2 x.f3 x.f4 x.f5
def above (p:Option Int) (n:Int):Bool:=match p with|none=>true|some q=>decide (q<n)
def kV (nx:Int):Option Int→List bf→Bool
 |_,[]=>true
 |p,x::l=>sr x&&decide (x.f0<nx)&&above p x.f0&&kV nx (some x.f0) l
def jy (l:List bf) (i:Nat):Option Int:=if i=0 then none else some (af l ((i:Int)-1)).f0
theorem qg (l:List bf) (i:Nat) (h:i<l.length):jy l (i+1)=some l[i].f0:=by
 unfold jy;rw[if_neg (by omega),show(((i+1:Nat):Int)-1)=(i:Int)from by omega,af,getD_at l _ i h]
structure nZ (x:bf):Prop where
 d:x.f3.length≤1048576
 e:x.f4.length≤1048576
 t:x.f5.length≤1048576
 en:∀y∈x.f4,y.f0.size≤1048576
 tn:∀y∈x.f5,y.f0.size≤1048576
theorem vG (x:bf) (h:sr x=true):1≤x.f0:=by
 unfold sr iy at h;simp only[Bool.and_eq_true,decide_eq_true_eq]at h
 omega
theorem xg (nx:Int) (l:List bf):∀(q:Int) (i:Nat),1≤q→kV nx (some q) l=true→cC 1 l i= -1:=by
 induction l with
 |nil=>intros;rfl
 |cons x l ih=>
  intro q i hq h;simp only[kV,above,Bool.and_eq_true,decide_eq_true_eq]at h;rw[cC,if_neg (by omega)];exact ih x.f0 (i+1) (by omega) h.2
theorem xh (nx:Int) (x:bf) (l:List bf) (h:kV nx none (x::l)=true):cC 1 (x::l) 0=if x.f0=1 then 0 else-1:=by
 simp only[kV,Bool.and_eq_true,decide_eq_true_eq]at h;rw[cC]
 split
 ·rfl
 ·exact xg nx l x.f0 1 (vG x h.1.1.1) h.2
def oW (l:List bf):Bool:=decide ((af l 0).f0=1)&&((af l 0).f1==2)
theorem ta (l:List bf) (nx:Int) (hl:l.length≤1048576) (hs:∀x∈l,nZ x) (hp:0<l.length):
  Ev (fun k=>bs.l0 k 0 l nx) (kV nx none l&&oW l):=by
 have key:Ev (fun k=>bs.l0 k (0:Nat) l nx) (kV nx (jy l 0) (l.drop 0)&&oW l):=by
  refine down (n:=l.length) (P:=fun i=>Ev (fun k=>bs.l0 k (i:Nat) l nx) (kV nx (jy l i) (l.drop i)&&oW l)) ?_ (fun i hi h=> ?_)
  ·rw[List.drop_length]
   apply aV
   simp only[bs.l0,kV];refine dg (by omega) (bo (by omega) ?_)
   by_cases c:(af l 0).f0=1
   ·exact bo c (eW (Ev.now _) (by simp[oW,c]))
   ·exact dg c (eW (Ev.now _) (by simp[oW,c]))
  ·rw[List.drop_eq_getElem_cons hi];rw[qg l i hi]at h;have hT:=hs l[i] (List.getElem_mem hi);have ho:=uw l[i].f0 l[i].f1 l[i].f2 l[i].f3 l[i].f4 l[i].f5 hT.e hT.t hT.en hT.tn;have hrd:af l (i:Int)=l[i]:=getD_at l _ i hi
   apply aV
   simp only[bs.l0,hrd];rw[nK i l.length hi (by omega)];refine bo (by omega) (bo (by omega) (Ev.bind ho ?_))
   by_cases c1:sr l[i]=true
   ·refine bo c1 ?_
    by_cases c2:l[i].f0<nx
    ·refine dg (by omega) ?_
     by_cases c3:i=0
     ·subst c3;refine dg (by omega) (eW h ?_);simp[kV,c1,c2,jy,above]
     ·rw[lr (n:=(i:Int)-1) (by omega) (by omega)];refine bo (by omega) (bo (by omega) (bo (by omega) ?_))
      have hu:above (jy l i) l[i].f0=decide ((af l ((i:Int)-1)).f0<l[i].f0):=by unfold jy;rw[if_neg c3];rfl
      by_cases c4:(af l ((i:Int)-1)).f0<l[i].f0
      ·refine dg (by omega) (eW h ?_);simp[kV,c1,c2,hu,c4]
      ·refine bo (by omega) (eW (Ev.now _) ?_);simp[kV,hu,c4]
    ·refine bo (by omega) (eW (Ev.now _) ?_);simp[kV,c2]
   ·refine dg c1 (eW (Ev.now _) ?_);simp[kV,c1]
 simpa [jy]using key
theorem tb (l:List bf) (nx:Int) (hl:l.length≤1048576) (hs:∀x∈l,nZ x) (E:Bool) (hE:Ev (fun k=>(cT.f k l nx 1).bind fun bt=>(if bt.2.2.2.2.2.2=true then(some (bt.2.1==2))else(some false))) E):
  Ev (fun k=>bu.l0 k l (l.length:Int) 0 l nx) (kV nx none l&&E):=by
 have key:Ev (fun k=>bu.l0 k l (l.length:Int) (0:Nat) l nx) (kV nx (jy l 0) (l.drop 0)&&E):=by
  refine down (n:=l.length) (P:=fun i=>Ev (fun k=>bu.l0 k l (l.length:Int) (i:Nat) l nx) (kV nx (jy l i) (l.drop i)&&E)) ?_ (fun i hi h=> ?_)
  ·rw[List.drop_length]
   apply aV
   simp only[bu.l0,kV];exact dg (by omega) (eW hE (by simp))
  ·rw[List.drop_eq_getElem_cons hi];rw[qg l i hi]at h;have hT:=hs l[i] (List.getElem_mem hi);have ho:=ux l[i].f0 l[i].f1 l[i].f2 l[i].f3 l[i].f4 l[i].f5 hT.e hT.t hT.en hT.tn;have hrd:af l (i:Int)=l[i]:=getD_at l _ i hi
   apply aV
   simp only[bu.l0,hrd];rw[nK i l.length hi (by omega)];refine bo (by omega) (bo (by omega) (bo (by omega) (Ev.bind ho ?_)))
   by_cases c1:sr l[i]=true
   ·refine bo c1 ?_
    by_cases c2:l[i].f0<nx
    ·refine dg (by omega) ?_
     by_cases c3:i=0
     ·subst c3;refine dg (by omega) (eW h ?_);simp[kV,c1,c2,jy,above]
     ·rw[lr (n:=(i:Int)-1) (by omega) (by omega)];refine bo (by omega) (bo (by omega) (bo (by omega) ?_))
      have hu:above (jy l i) l[i].f0=decide ((af l ((i:Int)-1)).f0<l[i].f0):=by unfold jy;rw[if_neg c3];rfl
      by_cases c4:(af l ((i:Int)-1)).f0<l[i].f0
      ·refine dg (by omega) (eW h ?_);simp[kV,c1,c2,hu,c4]
      ·refine bo (by omega) (eW (Ev.now _) ?_);simp[kV,hu,c4]
    ·refine bo (by omega) (eW (Ev.now _) ?_);simp[kV,c2]
   ·refine dg c1 (eW (Ev.now _) ?_);simp[kV,c1]
 simpa [jy]using key
theorem xi (x:bf) (h:nZ x):eF.f x.f0 x.f1 x.f2 x.f3 x.f4 x.f5=some (x.f0,x.f1,x.f2,x.f3,x.f4,x.f5):=by
 have hd:=h.d;have he:=h.e;have ht:=h.t
 have a:cD.f x.f3=some x.f3:=by unfold cD.f;simp;omega
 have b:cG.f x.f4=some x.f4:=by unfold cG.f;simp;omega
 have c:dh.f x.f5=some x.f5:=by unfold dh.f;simp;omega
 unfold eF.f;rw[a,Option.bind_some,b,Option.bind_some,c,Option.bind_some]
def nq (l:List bf) (nx:Int):Bool:=decide (1≤l.length∧l.length≤30)&&decide (2≤nx∧nx≤1000)&&(kV nx none l&&oW l)
theorem uy (ino:Int) (l:List bf):∀i:Nat,cC ino l i= -1∨((i:Int)≤cC ino l i∧cC ino l i<i+l.length):=by
 induction l with
 |nil=>intro i;exact .inl rfl
 |cons x l ih=>
  intro i;rw[cC]
  split
  ·right;simp only[List.length_cons];omega
  ·rcases ih (i+1)with h|h
   ·exact .inl h
   ·right;simp only[List.length_cons];omega
def atOk (l:List bf):Bool:=if cC 1 l 0<0 then false else((af l (cC 1 l 0)).f1==2)
theorem at_one (l:List bf) (nx:Int) (hl:l.length≤1048576) (hs:∀x∈l,nZ x):
  Ev (fun k=>(cT.f k l nx 1).bind fun bt=>(if bt.2.2.2.2.2.2=true then(some (bt.2.1==2))else(some false))) (atOk l):=by
 unfold cT.f ez.f atOk;rw[if_pos (by omega)];simp only[Option.bind_some]
 by_cases c:cC 1 l 0<0
 ·simp only[if_pos c,Option.bind_some];exact Ev.now _
 ·simp only[if_neg c];have hr:=uy 1 l 0;obtain⟨n,hn⟩:∃n:Nat,cC 1 l 0=n:=⟨(cC 1 l 0).toNat,by omega⟩;rw[hn]at hr c⊢
  have hlt:n<l.length:=by omega
  have hrd:af l (n:Int)=l[n]:=getD_at l _ n hlt;simp only[hrd,xi l[n] (hs _ (List.getElem_mem hlt)),Option.bind_some];rw[if_pos (by omega),if_pos (by omega)];simp only[Option.bind_some,if_true];exact Ev.now _
theorem acn (nx:Int) (l:List bf) (hp:0<l.length):(kV nx none l&&atOk l)=(kV nx none l&&oW l):=by
 cases h:kV nx none l with
 |false=>rfl
 |true=>
  cases l with
  |nil=>simp at hp
  |cons x l=>
   have hh:=xh nx x l h;simp only[Bool.true_and,atOk,oW,hh];have h0:af (x::l) 0=x:=rfl
   by_cases c:x.f0=1
   ·simp[c,h0]
   ·simp[c,h0]
theorem xj (l:List bf) (nx:Int) (hl:l.length≤1048576) (hs:∀x∈l,nZ x):Ev (fun k=>bs.f k l nx) (nq l nx):=by
 unfold bs.f nq;simp only[ph,Option.bind_some]
 have no:∀r:Bool,r=false→Ev (fun k=>bs.j0 k true l nx) r:=by
  intro r hr
  apply aV
  simp only[bs.j0];exact bo (by simp) (eW (Ev.now _) hr.symm)
 by_cases c1:1≤l.length∧l.length≤30
 ·refine bo (by simp;omega) ?_
  by_cases c2:2≤nx∧nx≤1000
  ·apply aV
   simp only[bs.j0];refine dg (by simp[c2]) (eW (ta l nx hl hs (by omega)) ?_);simp[c1,c2]
  ·rw[show decide (2≤nx∧nx≤1000)=false from decide_eq_false c2];exact no _ (by simp)
 ·refine dg (by simp;omega) (no _ ?_);rw[show decide (1≤l.length∧l.length≤30)=false from decide_eq_false c1]
  rfl
theorem xk (l:List bf) (nx:Int) (hl:l.length≤1048576) (hs:∀x∈l,nZ x):Ev (fun k=>bu.f k l nx) (nq l nx):=by
 unfold bu.f nq;simp only[qf,Option.bind_some]
 have no:∀r:Bool,r=false→Ev (fun k=>bu.j0 k true l nx) r:=by
  intro r hr
  apply aV
  simp only[bu.j0];exact bo (by simp) (eW (Ev.now _) hr.symm)
 by_cases c1:l.length≤30
 ·refine dg (by omega) ?_
  by_cases c2:2≤nx∧nx≤1000
  ·apply aV
   simp only[bu.j0];refine dg (by simp[c2]) (eW (tb l nx hl hs _ (at_one l nx hl hs)) ?_)
   by_cases c0:1≤l.length
   ·rw[acn nx l c0];simp[c0,c1,c2]
   ·obtain rfl:l=[]:=List.eq_nil_of_length_eq_zero (by omega);simp[kV,atOk,cC]
  ·rw[show decide (2≤nx∧nx≤1000)=false from decide_eq_false c2];exact no _ (by simp)
 ·refine bo (by omega) (no _ ?_);rw[show decide (1≤l.length∧l.length≤30)=false from decide_eq_false (by omega)]
  rfl
end Go.Proofs.YtlecajlnjmbilaaGreatDoor.Q
namespace Go.Proofs.YtlecajlnjmbilaaGreatDoor.Q
open Go.RowKit Go.Proofs.YtlecajlnjmbilaaGreatDoor.P Go.Proofs.ab.aq Go.Proofs.ab.aH Go.Proofs.ab.aK
def fQ (n:Int) (e:List cz):Nat:=(e.filter fun x=>decide (x.f1=n)).length
def hI (n:Int) (x:bf):Nat:=if x.f1=2 then fQ n x.f4 else 0
def eQ (n:Int) (l:List bf):Nat:=(l.map (hI n)).sum
theorem pz (n:Int) (e:List cz) (j:Nat) (hj:j<e.length):fQ n (e.drop j)=(if e[j].f1=n then 1 else 0)+fQ n (e.drop (j+1)):=by
 unfold fQ;rw[List.drop_eq_getElem_cons hj,List.filter_cons]
 by_cases h:e[j].f1=n
 ·rw[if_pos (by simpa using h),if_pos h,List.length_cons];omega
 ·rw[if_neg (by simpa using h),if_neg h];omega
theorem qh (n:Int) (l:List bf) (j:Nat) (hj:j<l.length):eQ n (l.drop j)=hI n l[j]+eQ n (l.drop (j+1)):=by
 unfold eQ;rw[List.drop_eq_getElem_cons hj,List.map_cons,List.sum_cons]
theorem xl (L:List bf) (nx n:Int) (hl:L.length≤1048576) (hs:∀x∈L,x.f4.length≤1048576) (hu:eQ n L≤4611686018427387904):Ev (fun k=>bl.f k L nx n) (eQ n L:Int):=by
 have key:∀acc:Nat,acc+eQ n (L.drop 0)≤4611686018427387904→Ev (fun k=>bl.l0 k n (acc:Int) (0:Nat) L nx) ((acc+eQ n (L.drop 0):Nat):Int):=by
  refine down (n:=L.length) (P:=fun i=>∀acc:Nat,acc+eQ n (L.drop i)≤4611686018427387904→Ev (fun k=>bl.l0 k n (acc:Int) (i:Nat) L nx) ((acc+eQ n (L.drop i):Nat):Int)) ?_ (fun i hi ih=> ?_)
  ·intro acc _;rw[List.drop_length]
   apply aV
   simp only[bl.l0];exact dg (by omega) (eW (Ev.now _) (by simp[eQ]))
  ·intro acc hb;rw[qh n L i hi]at hb⊢;have hx:=hs _ (List.getElem_mem hi);have ih:=ih (acc+hI n L[i]) (by omega);rw[←nK i L.length hi (by omega)]at ih;have ih:Ev (fun k=>bl.l0 k n ((acc+hI n L[i]:Nat):Int) (wrap64 ((i:Int)+1)) L nx) ((acc+(hI n L[i]+eQ n (L.drop (i+1))):Nat):Int):=eW ih (by omega);generalize ((acc+(hI n L[i]+eQ n (L.drop (i+1))):Nat):Int)=R at ih⊢
   apply aV
   simp only[bl.l0];refine bo (by omega) ?_;have hrd:af L (i:Int)=L[i]:=getD_at L _ i hi
   have go:∀acc j,Ev (fun k=>bl.l0 k n acc (wrap64 ((i:Int)+1)) L nx) R→Ev (fun k=>bl.j2 k n acc i j false L nx) R:=by
    intro acc j h
    apply aV
    simp only[bl.j2];exact dg (by simp) h
   by_cases hk:L[i].f1=2
   ·unfold hI at ih hb;rw[if_pos hk]at ih hb
    have inner:∀acc:Nat,acc+fQ n (L[i].f4.drop 0)≤4611686018427387904→Ev (fun k=>bl.l0 k n ((acc+fQ n (L[i].f4.drop 0):Nat):Int) (wrap64 ((i:Int)+1)) L nx) R→Ev (fun k=>bl.l1 k n (acc:Int) i (0:Nat) L nx) R:=by
     refine down (n:=L[i].f4.length) (P:=fun j=>∀acc:Nat,acc+fQ n (L[i].f4.drop j)≤4611686018427387904→Ev (fun k=>bl.l0 k n ((acc+fQ n (L[i].f4.drop j):Nat):Int) (wrap64 ((i:Int)+1)) L nx) R→Ev (fun k=>bl.l1 k n (acc:Int) i (j:Nat) L nx) R) ?_ (fun j hj ihj=> ?_)
     ·intro acc _ h;rw[List.drop_length]at h
      apply aV
      simp only[bl.l1,hrd];exact bo (by omega) (bo (by omega) (dg (by omega) (go _ _ (by simpa [fQ]using h))))
     ·intro acc hb h;rw[pz n _ j hj]at hb h
      apply aV
      simp only[bl.l1,hrd];refine bo (by omega) (bo (by omega) (bo (by omega) ?_))
      apply aV
      simp only[bl.j2,hrd];have hrj:al L[i].f4 (j:Int)=L[i].f4[j]:=getD_at L[i].f4 _ j hj;refine bo (by simp[hk]) (bo (by omega) (bo (by omega) (bo (by omega) (bo (by omega) ?_))));rw[hrj,nK j L[i].f4.length hj (by omega)]
      by_cases he:L[i].f4[j].f1=n
      ·rw[if_pos he]at hb h;refine bo he ?_;rw[lr (n:=(acc:Int)+1) (by omega) (by omega)];have:=ihj (acc+1) (by omega) (by rw[show acc+1+fQ n (L[i].f4.drop (j+1))=acc+(1+fQ n (L[i].f4.drop (j+1)))from by omega];exact h)
       simpa using this
      ·rw[if_neg he]at hb h;refine dg he (ihj acc (by omega) ?_)
       simpa using h
    exact inner acc (by simp only[List.drop_zero];omega) (by simpa using ih)
   ·unfold hI at ih;rw[if_neg hk]at ih
    apply aV
    simp only[bl.l1,hrd];refine bo (by omega) (bo (by omega) (wX (fun _=> ?_) (fun _=>go _ _ (by simpa using ih))));rw[show(L[i].f1==2)=false from by simp[hk]];exact go _ _ (by simpa using ih)
 have:=key 0 (by simpa using hu)
 simpa [bl.f]using this
theorem xm (L:List bf) (nx n:Int) (hl:L.length≤1048576) (hs:∀x∈L,x.f4.length≤1048576) (hu:eQ n L≤4611686018427387904):Ev (fun k=>cg.f k L nx n) (eQ n L:Int):=by
 have key:∀acc:Nat,acc+eQ n (L.drop 0)≤4611686018427387904→Ev (fun k=>cg.l0 k n (acc:Int) L (L.length:Int) (0:Nat)) ((acc+eQ n (L.drop 0):Nat):Int):=by
  refine down (n:=L.length) (P:=fun i=>∀acc:Nat,acc+eQ n (L.drop i)≤4611686018427387904→Ev (fun k=>cg.l0 k n (acc:Int) L (L.length:Int) (i:Nat)) ((acc+eQ n (L.drop i):Nat):Int)) ?_ (fun i hi ih=> ?_)
  ·intro acc _;rw[List.drop_length]
   apply aV
   simp only[cg.l0];exact dg (by omega) (eW (Ev.now _) (by simp[eQ]))
  ·intro acc hb;rw[qh n L i hi]at hb⊢;have hx:=hs _ (List.getElem_mem hi);have ih:=ih (acc+hI n L[i]) (by omega);rw[←nK i L.length hi (by omega)]at ih;have ih:Ev (fun k=>cg.l0 k n ((acc+hI n L[i]:Nat):Int) L (L.length:Int) (wrap64 ((i:Int)+1))) ((acc+(hI n L[i]+eQ n (L.drop (i+1))):Nat):Int):=eW ih (by omega);generalize ((acc+(hI n L[i]+eQ n (L.drop (i+1))):Nat):Int)=R at ih⊢
   apply aV
   have hrd:af L (i:Int)=L[i]:=getD_at L _ i hi;simp only[cg.l0,hrd];refine bo (by omega) ?_;refine bo (by omega) (bo (by omega) ?_)
   by_cases hk:L[i].f1=2
   ·unfold hI at ih hb;rw[if_pos hk]at ih hb;refine bo hk ?_
    have inner:∀acc:Nat,acc+fQ n (L[i].f4.drop 0)≤4611686018427387904→Ev (fun k=>cg.l0 k n ((acc+fQ n (L[i].f4.drop 0):Nat):Int) L (L.length:Int) (wrap64 ((i:Int)+1))) R→Ev (fun k=>cg.l1 k n (acc:Int) L (L.length:Int) i L[i].f4 (L[i].f4.length:Int) (0:Nat)) R:=by
     refine down (n:=L[i].f4.length) (P:=fun j=>∀acc:Nat,acc+fQ n (L[i].f4.drop j)≤4611686018427387904→Ev (fun k=>cg.l0 k n ((acc+fQ n (L[i].f4.drop j):Nat):Int) L (L.length:Int) (wrap64 ((i:Int)+1))) R→Ev (fun k=>cg.l1 k n (acc:Int) L (L.length:Int) i L[i].f4 (L[i].f4.length:Int) (j:Nat)) R) ?_ (fun j hj ihj=> ?_)
     ·intro acc _ h;rw[List.drop_length]at h
      apply aV
      simp only[cg.l1];exact dg (by omega) (by simpa [fQ]using h)
     ·intro acc hb h;rw[pz n _ j hj]at hb h
      apply aV
      simp only[cg.l1];have hrj:al L[i].f4 (j:Int)=L[i].f4[j]:=getD_at L[i].f4 _ j hj;refine bo (by omega) (bo (by omega) (bo (by omega) ?_));rw[hrj,nK j L[i].f4.length hj (by omega)]
      by_cases he:L[i].f4[j].f1=n
      ·rw[if_pos he]at hb h;refine bo he ?_;rw[lr (n:=(acc:Int)+1) (by omega) (by omega)];have:=ihj (acc+1) (by omega) (by rw[show acc+1+fQ n (L[i].f4.drop (j+1))=acc+(1+fQ n (L[i].f4.drop (j+1)))from by omega];exact h)
       simpa using this
      ·rw[if_neg he]at hb h;refine dg he (ihj acc (by omega) ?_)
       simpa using h
    exact inner acc (by simp only[List.drop_zero];omega) (by simpa using ih)
   ·unfold hI at ih;rw[if_neg hk]at ih;exact dg hk (by simpa using ih)
 have:=key 0 (by simpa using hu)
 simpa [cg.f]using this
end Go.Proofs.YtlecajlnjmbilaaGreatDoor.Q
namespace Go.Proofs.YtlecajlnjmbilaaGreatDoor.Q
open Go.RowKit Go.Proofs.YtlecajlnjmbilaaGreatDoor.P Go.Proofs.ab.aq Go.Proofs.ab.aH Go.Proofs.ab.aK
theorem vH (l:List Int):(strOfNums l).size=l.length:=by
 simp[strOfNums,ByteArray.size]
theorem xn (m:Nat):∀(n:Int) (s:ByteArray),0≤n→n≤9223372036854775807→n<10^m→s.size+m≤1000→∃r,Ev (fun k=>bg.l0 k n s) r:=by
 induction m with
 |zero=>
  intro n s h0 _ h1 hs;refine⟨(⟨#[109]⟩:ByteArray)++s,aV ?_⟩;simp only[bg.l0];exact dg (by omega) (bo (by omega) (Ev.now _))
 |succ m ih=>
  intro n s h0 hM h1 hs
  by_cases hn:n>0
  ·have hd:wrap64 (Int.tdiv n 10)=n/10:=by rw[Int.tdiv_eq_ediv_of_nonneg h0];exact lr (by omega) (by omega)
   obtain⟨r,hr⟩:=ih (n/10) ((strOfNums [wrap64 (48+Int.tmod n 10)%256])++s) (by omega) (by omega) (by rw[Int.pow_succ]at h1;omega) (by rw[ByteArray.size_append,vH];simp;omega);refine⟨r,aV ?_⟩;simp only[bg.l0,Option.bind_some,hd];exact bo hn (bo (by rw[vH];simp;omega) hr)
  ·refine⟨(⟨#[109]⟩:ByteArray)++s,aV ?_⟩;simp only[bg.l0];exact dg hn (bo (by omega) (Ev.now _))
theorem abm (n:Int) (h0:1≤n) (h1:n≤9223372036854775807):∃r,Ev (fun k=>bg.f k n) r:=by
 obtain⟨r,h⟩:=xn 19 n ⟨#[]⟩ (by omega) h1 (by omega) (by decide);exact⟨r,by unfold bg.f;exact dg (by omega) h⟩
theorem qT {α:Type}(y:List α) (i:Nat) (v:α) (h:i<y.length):(y.set i v).take (i+1)=y.take i++[v]:=by
 rw[List.take_succ_eq_append_getElem (by simpa using h),List.getElem_set_self,List.take_set_of_le (Nat.le_refl i)]
def tv:Int→List cz→Prop
 |_,[]=>True
 |a,x::l=>Ev (fun k=>bg.f k a) x.f0∧x.f1=a+1∧tv (a+2) l
def tw:Int→List ei→Prop
 |_,[]=>True
 |a,x::l=>Ev (fun k=>bg.f k a) x.f0∧Ev (fun k=>bg.f k (a+1)) x.f1∧tw (a+2) l
theorem abn (l:List cz):∀(a:Int) (i:Nat) (h:i<l.length),tv a l→Ev (fun k=>bg.f k (a+2*i)) l[i].f0∧l[i].f1=a+2*i+1:=by
 induction l with
 |nil=>intro a i h;simp at h
 |cons x l ih=>
  intro a i h hh
  cases i with
  |zero=>exact⟨by simpa using hh.1,by simpa using hh.2.1⟩
  |succ i=>
   obtain⟨h1,h2⟩:=ih (a+2) i (by simpa using h) hh.2.2;rw[show a+2+2*(i:Int)=a+2*((i+1:Nat):Int)from by omega]at h1 h2;exact⟨h1,h2⟩
theorem abo (l:List ei):∀(a:Int) (i:Nat) (h:i<l.length),tw a l→Ev (fun k=>bg.f k (a+2*i)) l[i].f0∧Ev (fun k=>bg.f k (a+2*i+1)) l[i].f1:=by
 induction l with
 |nil=>intro a i h;simp at h
 |cons x l ih=>
  intro a i h hh
  cases i with
  |zero=>exact⟨by simpa using hh.1,by simpa using hh.2.1⟩
  |succ i=>
   obtain⟨h1,h2⟩:=ih (a+2) i (by simpa using h) hh.2.2;rw[show a+2+2*(i:Int)=a+2*((i+1:Nat):Int)from by omega]at h1 h2;exact⟨h1,h2⟩
theorem abp (l:List cz) (a:Int) (h0:1≤a) (h1:a+2*l.length≤4611686018427387904) (hh:tv a l):Ev (fun k=>cf.f k l a) (a+2*l.length):=by
 have key:=down (n:=l.length) (P:=fun i=>Ev (fun k=>cf.l0 k l (a+2*i) (i:Nat)) (a+2*l.length)) (by
   apply aV
   simp only[cf.l0]
   exact dg (by omega) (Ev.now _)) (fun i hi h=>by
   obtain⟨g1,g2⟩:=abn l a i hi hh;have hrd:al l (i:Int)=l[i]:=getD_at l _ i hi
   apply aV
   simp only[cf.l0,hrd];rw[lr (n:=a+2*(i:Int)+1) (by omega) (by omega),lr (n:=a+2*(i:Int)+1+1) (by omega) (by omega),nK i l.length hi (by omega)];refine bo (by omega) (bo (by omega) (Ev.bind g1 (bo rfl (bo g2 ?_))));rw[show a+2*(i:Int)+1+1=a+2*((i+1:Nat):Int)from by omega]
   exact h)
 simpa [cf.f]using key
theorem yO (l:List ei) (a:Int) (h0:1≤a) (h1:a+2*l.length≤4611686018427387904) (hh:tw a l):Ev (fun k=>aU.f k l a) (a+2*l.length):=by
 have key:=down (n:=l.length) (P:=fun i=>Ev (fun k=>aU.l0 k l (a+2*i) (i:Nat)) (a+2*l.length)) (by
   apply aV
   simp only[aU.l0]
   exact dg (by omega) (Ev.now _)) (fun i hi h=>by
   obtain⟨g1,g2⟩:=abo l a i hi hh;have hrd:av l (i:Int)=l[i]:=getD_at l _ i hi
   apply aV
   simp only[aU.l0,hrd];rw[lr (n:=a+2*(i:Int)+1) (by omega) (by omega),lr (n:=a+2*(i:Int)+1+1) (by omega) (by omega),nK i l.length hi (by omega)];refine bo (by omega) (bo (by omega) (Ev.bind g1 (bo rfl (Ev.bind g2 (bo rfl ?_)))));rw[show a+2*(i:Int)+1+1=a+2*((i+1:Nat):Int)from by omega]
   exact h)
 simpa [aU.f]using key
theorem abq (l:List cz) (x:Int) (h0:1≤x) (h1:x+2*l.length≤4611686018427387904):∃r,Ev (fun k=>di.f k l x) (x+2*l.length,r)∧r.length=l.length∧tv x r:=by
 have key:=down (n:=l.length) (P:=fun i=>∀y:List cz,y.length=l.length→∃r,Ev (fun k=>di.l0 k y (x+2*i) (i:Nat)) (x+2*l.length,y.take i++r)∧i+r.length=l.length∧tv (x+2*i) r) (by
   intro y hy;refine⟨[],aV ?_,by simp,trivial⟩;simp only[di.l0];refine dg (by omega) (eW (Ev.now _) ?_)
   rw[←hy,List.take_length,List.append_nil]) (by
   intro i hi h y hy;obtain⟨s,hs⟩:=abm (x+2*i) (by omega) (by omega);obtain⟨r,hr,hl,hh⟩:=h (((y.set i (⟨s,(al y (i:Nat)).f1⟩:cz)).set i (⟨(al (y.set i (⟨s,(al y (i:Nat)).f1⟩:cz)) (i:Nat)).f0,x+2*i+1⟩:cz))) (by simp[hy])
   have e0:(al (y.set i (⟨s,(al y (i:Nat)).f1⟩:cz)) (i:Nat)).f0=s:=by rw[al,getD_at _ _ i (by simpa using(by omega:i<y.length)),List.getElem_set_self]
   have e1:=e0;refine⟨⟨s,x+2*i+1⟩::r,aV ?_,by simp;omega,hs,rfl,by rw[show x+2*(i:Int)+2=x+2*((i+1:Nat):Int)from by omega];exact hh⟩;simp only[di.l0,Option.bind_some];refine bo (by omega) (Ev.bind hs (bo (by omega) ?_));rw[lr (n:=x+2*(i:Int)+1) (by omega) (by omega),lr (n:=x+2*(i:Int)+1+1) (by omega) (by omega),nK i l.length hi (by omega),show x+2*(i:Int)+1+1=x+2*((i+1:Nat):Int)from by omega];refine eW hr ?_;rw[e1,qT _ _ _ (by simp;omega),List.take_set_of_le (Nat.le_refl i),List.append_assoc]
   rfl)
 obtain⟨r,hr,hl,hh⟩:=key l rfl;exact⟨r,by simpa [di.f]using hr,by omega,by simpa using hh⟩
theorem yP (l:List ei) (x:Int) (h0:1≤x) (h1:x+2*l.length≤4611686018427387904):∃r,Ev (fun k=>cW.f k l x) (x+2*l.length,r)∧r.length=l.length∧tw x r:=by
 have key:=down (n:=l.length) (P:=fun i=>∀y:List ei,y.length=l.length→∃r,Ev (fun k=>cW.l0 k y (x+2*i) (i:Nat)) (x+2*l.length,y.take i++r)∧i+r.length=l.length∧tw (x+2*i) r) (by
   intro y hy;refine⟨[],aV ?_,by simp,trivial⟩;simp only[cW.l0];refine dg (by omega) (eW (Ev.now _) ?_)
   rw[←hy,List.take_length,List.append_nil]) (by
   intro i hi h y hy;obtain⟨s,hs⟩:=abm (x+2*i) (by omega) (by omega);obtain⟨s2,hs2⟩:=abm (x+2*i+1) (by omega) (by omega);obtain⟨r,hr,hl,hh⟩:=h (((y.set i (⟨s,(av y (i:Nat)).f1⟩:ei)).set i (⟨(av (y.set i (⟨s,(av y (i:Nat)).f1⟩:ei)) (i:Nat)).f0,s2⟩:ei))) (by simp[hy])
   have e1:(av (y.set i (⟨s,(av y (i:Nat)).f1⟩:ei)) (i:Nat)).f0=s:=by rw[av,getD_at _ _ i (by simpa using(by omega:i<y.length)),List.getElem_set_self]
   refine⟨⟨s,s2⟩::r,aV ?_,by simp;omega,hs,hs2,by rw[show x+2*(i:Int)+2=x+2*((i+1:Nat):Int)from by omega];exact hh⟩;simp only[cW.l0,Option.bind_some];rw[lr (n:=x+2*(i:Int)+1) (by omega) (by omega),lr (n:=x+2*(i:Int)+1+1) (by omega) (by omega),nK i l.length hi (by omega),show x+2*(i:Int)+1+1=x+2*((i+1:Nat):Int)from by omega];refine bo (by omega) (Ev.bind hs (bo (by omega) (Ev.bind hs2 (eW hr ?_))));rw[e1,qT _ _ _ (by simp;omega),List.take_set_of_le (Nat.le_refl i),List.append_assoc]
   rfl)
 obtain⟨r,hr,hl,hh⟩:=key l rfl;exact⟨r,by simpa [cW.f]using hr,by omega,by simpa using hh⟩
def acE (a:Int) (d:List Int) (e:List cz) (t:List ei):Prop:=d=marks d.length a∧tv (a+d.length) e∧tw (a+d.length+2*e.length) t
def inW (d:List Int) (e:List cz) (t:List ei):Nat:=d.length+2*e.length+2*t.length
end Go.Proofs.YtlecajlnjmbilaaGreatDoor.Q
namespace Go.Proofs.YtlecajlnjmbilaaGreatDoor.Q
open Go.RowKit Go.Proofs.YtlecajlnjmbilaaGreatDoor.P Go.Proofs.ab.aq Go.Proofs.ab.aH Go.Proofs.ab.aK
def na (x:bf):Nat:=3+inW x.f3 x.f4 x.f5
def cX (l:List bf):Nat:=(l.map na).sum
def tx:Int→List bf→Prop
 |_,[]=>True
 |a,x::l=>(x.f0=a∧x.f1=a+1∧x.f2=a+2∧acE (a+3) x.f3 x.f4 x.f5)∧tx (a+na x) l
theorem abr (l:List bf):∀(x:Int),1≤x→x+cX l≤4611686018427387904→∃r,Ev (fun k=>qL k l x) (x+cX l,r)∧r.length=l.length∧cX r=cX l∧tx x r:=by
 induction l with
 |nil=>intro x _ _;exact⟨[],eW (Ev.now _) (by simp[cX]),rfl,rfl,trivial⟩
 |cons y l ih=>
  intro x h0 h1
  have hw:cX (y::l)=na y+cX l:=by simp[cX]
  rw[hw]at h1⊢;obtain⟨r,hr,hl,hW,hh⟩:=ih (x+na y) (by omega) (by omega);have hy:na y=3+(y.f3.length+2*y.f4.length+2*y.f5.length):=rfl;have g1:=uo y.f3 (x+1+1+1) (by omega) (by omega);obtain⟨e',g2,l2,v2⟩:=abq y.f4 (x+1+1+1+y.f3.length) (by omega) (by omega);obtain⟨t',g3,l3,v3⟩:=yP y.f5 (x+1+1+1+y.f3.length+2*y.f4.length) (by omega) (by omega)
  have hz:na ⟨x,x+1,x+1+1,marks y.f3.length (x+1+1+1),e',t'⟩=na y:=by
   simp only[na,inW,gm,l2,l3]
  refine⟨⟨x,x+1,x+1+1,marks y.f3.length (x+1+1+1),e',t'⟩::r,?_,by simp[hl],by simp only[cX,List.map_cons,List.sum_cons,hz]at hW⊢;omega,⟨rfl,rfl,by dsimp only;omega,?_⟩,by rw[hz];exact hh⟩
  ·simp only[qL,ud];rw[lr (n:=x+1) (by omega) (by omega),lr (n:=x+1+1) (by omega) (by omega),lr (n:=x+1+1+1) (by omega) (by omega)];refine Ev.bind (Ev.bind g1 (Ev.bind g2 (Ev.bind g3 (Ev.now _)))) ?_;rw[show x+1+1+1+(y.f3.length:Int)+2*y.f4.length+2*y.f5.length=x+na y from by omega];refine Ev.bind hr (eW (Ev.now _) ?_);rw[show x+((na y+cX l:Nat):Int)=x+na y+cX l from by omega]
  ·rw[show x+1+1+1=x+3 from by omega]at v2 v3⊢;exact⟨by rw[gm],by rw[gm];exact v2,by rw[gm,l2];exact v3⟩
theorem tz (l:List bf) (x:Int) (hl:l.length≤1048577) (h0:1≤x) (h1:x+cX l≤4611686018427387904):∃r,Ev (fun k=>eA.f k l x) (x+cX l,r)∧r.length=l.length∧cX r=cX l∧tx x r:=by
 obtain⟨r,hr,z⟩:=abr l x h0 h1;exact⟨r,by unfold eA.f;exact bo (by omega) hr,z⟩
theorem abt (l:List bf) (x:Int) (hl:l.length≤1048576) (h0:1≤x) (h1:x+cX l≤4611686018427387904):∃r,Ev (fun k=>eA.f k l x) (x+cX l,r)∧r.length=l.length∧cX r=cX l∧tx x r:=tz l x (by omega) h0 h1
theorem abu (l:List bf):∀(a:Int) (i:Nat) (h:i<l.length),tx a l→(l[i].f0=a+cX (l.take i)∧l[i].f1=a+cX (l.take i)+1∧l[i].f2=a+cX (l.take i)+2∧acE (a+cX (l.take i)+3) l[i].f3 l[i].f4 l[i].f5):=by
 induction l with
 |nil=>intro a i h;simp at h
 |cons x l ih=>
  intro a i h hh
  cases i with
  |zero=>simpa [cX]using hh.1
  |succ i=>
   have:=ih (a+na x) i (by simpa using h) hh.2;rw[show a+(na x:Int)+cX (l.take i)=a+cX ((x::l).take (i+1))from by simp[cX];omega]at this;exact this
theorem xo (l:List bf) (i:Nat) (h:i<l.length):cX (l.take (i+1))=cX (l.take i)+na l[i]:=by
 unfold cX;rw[List.take_succ_eq_append_getElem h,List.map_append,List.sum_append];simp
theorem abv (l:List bf) (i:Nat):cX (l.take i)≤cX l:=by
 have h:cX l=cX (l.take i)+cX (l.drop i):=by unfold cX;rw[←List.sum_append,←List.map_append,List.take_append_drop]
 omega
end Go.Proofs.YtlecajlnjmbilaaGreatDoor.Q
namespace Go.Proofs.YtlecajlnjmbilaaGreatDoor.Q
open Go.RowKit Go.Proofs.YtlecajlnjmbilaaGreatDoor.P Go.Proofs.ab.aq Go.Proofs.ab.aH Go.Proofs.ab.aK
theorem yQ (l:List bf) (nx x:Int) (hl:l.length≤1048577) (h0:1≤x) (h1:x+cX l≤4611686018427387904) (hh:tx x l):Ev (fun k=>fv.f k l nx x) (x+cX l):=by
 have key:=down (n:=l.length) (P:=fun i=>Ev (fun k=>aA.l0 k l (x+cX (l.take i)) (i:Nat)) (x+cX l)) (by
   apply aV
   simp only[aA.l0,List.take_length]
   exact dg (by omega) (Ev.now _)) (fun i hi h=>by
   obtain⟨g0,g1,g2,hd,he,ht⟩:=abu l x i hi hh;have hrd:af l (i:Int)=l[i]:=getD_at l _ i hi;have hw:=xo l i hi;have hle:=abv l (i+1);have hy:na l[i]=3+(l[i].f3.length+2*l[i].f4.length+2*l[i].f5.length):=rfl;generalize hA:x+(cX (l.take i):Int)=A at g0 g1 g2 hd he ht;have b1:=uq l[i].f3.length (A+3) (by omega) (by omega);rw[←hd]at b1;have b2:=abp l[i].f4 (A+3+l[i].f3.length) (by omega) (by omega) he;have b3:=yO l[i].f5 (A+3+l[i].f3.length+2*l[i].f4.length) (by omega) (by omega) ht
   apply aV
   simp only[aA.l0];refine bo (by omega) ?_
   apply aV
   simp only[aA.j1,hrd];refine bo (by omega) (bo (by omega) (bo g0 ?_))
   apply aV
   simp only[aA.j2,hrd];rw[lr (n:=A+1) (by omega) (by omega)];refine bo (by omega) (bo (by omega) (bo g1 ?_))
   apply aV
   simp only[aA.j3,hrd];rw[lr (n:=A+1+1) (by omega) (by omega)];refine bo (by omega) (bo (by omega) (bo (by omega) ?_))
   apply aV
   simp only[aA.j4,hrd];rw[lr (n:=A+1+1+1) (by omega) (by omega),show A+1+1+1=A+3 from by omega];refine bo (by omega) (bo (by omega) (Ev.bind b1 (dg (by omega) ?_)))
   apply aV
   simp only[aA.j5,hrd];refine bo (by omega) (bo (by omega) (Ev.bind b2 (dg (by omega) (Ev.bind b3 (dg (by omega) ?_)))));rw[nK i l.length hi (by omega)];rw[show A+3+(l[i].f3.length:Int)+2*l[i].f4.length+2*l[i].f5.length=x+cX (l.take (i+1))from by omega]
   exact h)
 unfold fv.f aA.f;refine Ev.bind (a:=x+cX l) ?_ (dg (by omega) (Ev.now _))
 simpa [cX]using key
end Go.Proofs.YtlecajlnjmbilaaGreatDoor.Q
namespace Go.Proofs.YtlecajlnjmbilaaGreatDoor.Q
open Go.RowKit Go.Proofs.YtlecajlnjmbilaaGreatDoor.P Go.Proofs.ab.aq Go.Proofs.ab.aH Go.Proofs.ab.aK
structure ia (x:bf):Prop where
 d:x.f3.length≤1048576
 e:x.f4.length≤1048576
 t:x.f5.length≤1048576
theorem su (x:bf) (h:ia x):eF.f x.f0 x.f1 x.f2 x.f3 x.f4 x.f5=some (x.f0,x.f1,x.f2,x.f3,x.f4,x.f5):=by
 have hd:=h.d;have he:=h.e;have ht:=h.t
 have a:cD.f x.f3=some x.f3:=by unfold cD.f;simp;omega
 have b:cG.f x.f4=some x.f4:=by unfold cG.f;simp;omega
 have c:dh.f x.f5=some x.f5:=by unfold dh.f;simp;omega
 unfold eF.f;rw[a,Option.bind_some,b,Option.bind_some,c,Option.bind_some]
end Go.Proofs.YtlecajlnjmbilaaGreatDoor.Q
namespace Go.Proofs.YtlecajlnjmbilaaGreatDoor.Q
open Go.RowKit Go.Proofs.YtlecajlnjmbilaaGreatDoor.P Go.Proofs.ab.aq Go.Proofs.ab.aH Go.Proofs.ab.aK
theorem qi (x:bf) (h:ia x):dv.f x.f0 x.f1 x.f2 x.f3 x.f4 x.f5=some (x.f0,x.f1,x.f2,x.f3,x.f4,x.f5):=by
 have hd:=h.d;have he:=h.e;have ht:=h.t;unfold dv.f;simp only[Option.bind_some,List.length_nil,List.nil_append];rw[if_pos (by omega),if_pos (by omega),if_pos (by omega)]
end Go.Proofs.YtlecajlnjmbilaaGreatDoor.Q
namespace Go.Proofs.YtlecajlnjmbilaaGreatDoor.Q
open Go.RowKit Go.Proofs.YtlecajlnjmbilaaGreatDoor.P Go.Proofs.ab.aq Go.Proofs.ab.aH Go.Proofs.ab.aK
theorem abg (l:List nD):cX (l.map kj)≤3*qS l:=by
 unfold cX qS
 induction l with
 |nil=>simp
 |cons x l ih=>
  simp only[List.map_cons,List.sum_cons,List.length_cons]
  have:na (kj x)≤3+3*qd x:=by
   unfold na inW qd qc kj;simp only[List.length_map]
   omega
  omega
theorem uz (p:bf→Bool) (l:List bf):cX (l.filter p)≤cX l:=by
 unfold cX
 induction l with
 |nil=>simp
 |cons x l ih=>
  rw[List.filter_cons]
  split
  ·simp only[List.map_cons,List.sum_cons];omega
  ·simp only[List.map_cons,List.sum_cons];omega
theorem sv {l:List bf}(h:∀x∈l,ia x):∀x∈l,x.f3.length≤9223372036854775807∧x.f4.length≤9223372036854775807∧x.f5.length≤9223372036854775807:=fun x hx=>by
 have a:=(h x hx).d;have b:=(h x hx).e;have c:=(h x hx).t
 omega
end Go.Proofs.YtlecajlnjmbilaaGreatDoor.Q
namespace Go.Proofs.YtlecajlnjmbilaaGreatDoor.Q
open Go.RowKit Go.Proofs.YtlecajlnjmbilaaGreatDoor.P Go.Proofs.ab.aq Go.Proofs.ab.aH Go.Proofs.ab.aK
theorem kT (ino:Int) (l:List bf):∀i:Nat,cC ino l i= -1∨((i:Int)≤cC ino l i∧cC ino l i<i+l.length):=by
 induction l with
 |nil=>intro i;exact .inl rfl
 |cons x l ih=>
  intro i;rw[cC]
  split
  ·right;simp only[List.length_cons];omega
  ·rcases ih (i+1)with h|h
   ·exact .inl h
   ·right;simp only[List.length_cons];omega
theorem pj (l:List bf) (nx ino:Int) (hl:l.length≤1048576):Ev (fun k=>cH.f k l nx ino) (cC ino l 0):=by
 have key:=down (n:=l.length) (P:=fun i=>Ev (fun k=>cH.l0 k ino (i:Nat) l nx) (cC ino (l.drop i) i)) (by
   apply aV
   simp only[cH.l0];refine dg (by omega) (eW (Ev.now _) ?_)
   rw[List.drop_length];rfl) (fun i hi h=>by
   have hrd:af l (i:Int)=l[i]:=getD_at l _ i hi
   apply aV
   simp only[cH.l0,hrd];rw[nK i l.length hi (by omega),List.drop_eq_getElem_cons hi,cC];refine bo (by omega) (bo (by omega) ?_)
   by_cases c:l[i].f0=ino
   ·exact bo c (eW (Ev.now _) (by rw[if_pos c]))
   ·exact dg c (eW h (by rw[if_neg c])))
 simpa [cH.f]using key
end Go.Proofs.YtlecajlnjmbilaaGreatDoor.Q
namespace Go.Proofs.YtlecajlnjmbilaaGreatDoor.Q
open Go.RowKit Go.Proofs.YtlecajlnjmbilaaGreatDoor.P Go.Proofs.ab.aq Go.Proofs.ab.aH Go.Proofs.ab.aK
def fF (l:List bf) (ino:Int):bf:=if cC ino l 0<0 then⟨0,0,0,[],[],[]⟩else af l (cC ino l 0)
def eX (l:List bf) (ino:Int):Bool:=decide (0≤cC ino l 0)
theorem jl (l:List bf) (ino:Int) (hs:∀x∈l,ia x):ia (fF l ino):=by
 unfold fF
 split
 ·exact⟨by simp,by simp,by simp⟩
 ·rcases kT ino l 0 with h|h
  ·omega
  ·obtain⟨n,hn⟩:∃n:Nat,cC ino l 0=n:=⟨(cC ino l 0).toNat,by omega⟩;rw[hn]at h⊢
   have hlt:n<l.length:=by omega
   have hrd:af l (n:Int)=l[n]:=getD_at l _ n hlt;rw[hrd];exact hs _ (List.getElem_mem hlt)
theorem ob (l:List bf) (nx ino:Int) (hl:l.length≤1048576) (hs:∀x∈l,ia x):
  Ev (fun k=>cT.f k l nx ino) ((fF l ino).f0,(fF l ino).f1,(fF l ino).f2,(fF l ino).f3,(fF l ino).f4,(fF l ino).f5,eX l ino):=by
 have hc:=jl l ino hs;have hr:=kT ino l 0;unfold cT.f ez.f;refine Ev.bind (bo (by omega) (Ev.now _)) ?_
 by_cases c:cC ino l 0<0
 ·refine bo c (eW (Ev.now _) ?_);simp only[fF,eX,if_pos c,show decide (0≤cC ino l 0)=false from decide_eq_false (by omega)]
 ·have hi:fF l ino=af l (cC ino l 0):=by simp only[fF,if_neg c]
  rw[hi]at hc⊢;refine dg c (bo (by omega) (bo (by omega) ?_));simp only[su _ hc,Option.bind_some];refine eW (Ev.now _) ?_;simp only[eX,show decide (0≤cC ino l 0)=true from decide_eq_true (by omega)]
end Go.Proofs.YtlecajlnjmbilaaGreatDoor.Q
namespace Go.Proofs.YtlecajlnjmbilaaGreatDoor.Q
open Go.RowKit Go.Proofs.YtlecajlnjmbilaaGreatDoor.P Go.Proofs.ab.aq Go.Proofs.ab.aH Go.Proofs.ab.aK
theorem qj (l:List bf) (nx ino:Int) (hl:l.length≤1048576) (hs:∀x∈l,ia x):
  Ev (fun k=>fP.f k l nx ino) ((fF l ino).f0,(fF l ino).f1,(fF l ino).f2,(fF l ino).f3,(fF l ino).f4,(fF l ino).f5,eX l ino):=by
 have hc:=jl l ino hs;have hr:=kT ino l 0;unfold fP.f;refine Ev.bind (pj l nx ino hl) ?_
 by_cases c:cC ino l 0<0
 ·refine bo c (eW (Ev.now _) ?_);simp only[fF,eX,if_pos c,show decide (0≤cC ino l 0)=false from decide_eq_false (by omega)]
 ·have hi:fF l ino=af l (cC ino l 0):=by simp only[fF,if_neg c]
  rw[hi]at hc⊢;refine dg c (bo (by omega) (bo (by omega) ?_));simp only[qi _ hc,Option.bind_some];refine eW (Ev.now _) ?_;simp only[eX,show decide (0≤cC ino l 0)=true from decide_eq_true (by omega)]
end Go.Proofs.YtlecajlnjmbilaaGreatDoor.Q
namespace Go.Proofs.YtlecajlnjmbilaaGreatDoor.Q
open Go.RowKit Go.Proofs.YtlecajlnjmbilaaGreatDoor.P Go.Proofs.ab.aq Go.Proofs.ab.aH Go.Proofs.ab.aK
def lL (name:ByteArray):List cz→Int
 |[]=>0
 |e::l=>if e.f0.toList=name.toList then e.f1 else lL name l
theorem sw (a b c:Int) (d:List Int) (e:List cz) (t:List ei) (name:ByteArray) (he:e.length≤9223372036854775807):Ev (fun k=>eo.f k a b c d e t name) (lL name e):=by
 unfold eo.f;refine xV (fun k i=>eo.l0 k name i a b c d e t) e (lL name) ?_ (fun i hi h=> ?_)
 ·apply aV
  simp only[eo.l0];exact dg (by omega) (Ev.now _)
 ·apply aV
  simp only[eo.l0,al,getD_at e _ i hi,lL];refine bo (by omega) (bo (by omega) ?_);rw[nK i e.length hi he];exact yI (fun _=>Ev.now _) (fun _=>h)
theorem sx (a b c:Int) (d:List Int) (e:List cz) (t:List ei) (name:ByteArray) (he:e.length≤9223372036854775807):Ev (fun k=>eE.f k a b c d e t name) (lL name e):=by
 unfold eE.f;refine xV (fun k i=>eE.l0 k name e (e.length:Int) i) e (lL name) ?_ (fun i hi h=> ?_)
 ·apply aV
  simp only[eE.l0];exact dg (by omega) (Ev.now _)
 ·apply aV
  simp only[eE.l0,al,getD_at e _ i hi,lL];refine bo (by omega) (bo (by omega) (bo (by omega) ?_));rw[nK i e.length hi he];exact yI (fun _=>Ev.now _) (fun _=>h)
end Go.Proofs.YtlecajlnjmbilaaGreatDoor.Q
namespace Go.Proofs.YtlecajlnjmbilaaGreatDoor.Q
open Go.RowKit Go.Proofs.YtlecajlnjmbilaaGreatDoor.P Go.Proofs.ab.aq Go.Proofs.ab.aH Go.Proofs.ab.aK
theorem adB (i:Nat) (n:Nat) (hi:i<n) (hn:n≤9223372036854775807):wrap64 ((i:Int)+1)=((i+1:Nat):Int):=by
 rw[lr (by omega) (by omega)];omega
theorem aee {n:Nat}{P:Nat→Prop}(h1:P n) (h2:∀i,i<n→P (i+1)→P i):P 0:=by
 have key:∀m i:Nat,n-i=m→i≤n→P i:=by
  intro m
  induction m with
  |zero=>
   intro i hm hi
   obtain rfl:i=n:=by omega
   exact h1
  |succ m ih=>intro i hm hi;exact h2 i (by omega) (ih (i+1) (by omega) (by omega))
 exact key n 0 (by omega) (by omega)
theorem rdS (l:List ByteArray) (i:Nat) (h:i<l.length):iZ ByteArray.empty l (i:Int)=l[i]:=getD_at l _ i h
def jm (l:List ByteArray):Nat:=(l.map ByteArray.size).sum
theorem xp (l:List ByteArray) (i:Nat) (h:i<l.length):jm (l.drop i)=l[i].size+jm (l.drop (i+1)):=by
 unfold jm;rw[List.drop_eq_getElem_cons h,List.map_cons,List.sum_cons]
theorem tA (l:List ByteArray):∀x∈l,x.size≤jm l:=by
 induction l with
 |nil=>intro x hx;cases hx
 |cons y l ih=>
  intro x hx;unfold jm at ih⊢;rw[List.map_cons,List.sum_cons];rcases List.mem_cons.1 hx with rfl|hx
  ·omega
  ·have:=ih x hx;omega
theorem xY (l:List ByteArray) (hs:∀x∈l,x.size≤1048576):∀i:Nat,∃r,Ev (fun k=>badR k l i) r∧(decide (0≤r))= !(l.all gh):=by
 induction l with
 |nil=>intro i;exact⟨-1,Ev.now _,rfl⟩
 |cons x l ih=>
  intro i;have hx:=qA x (by have:=hs x (List.mem_cons_self ..);omega)
  by_cases c:gh x=true
  ·obtain⟨r,h1,h2⟩:=ih (fun y hy=>hs y (List.mem_cons_of_mem _ hy)) (i+1);refine⟨r,?_,by rw[h2,List.all_cons,c,Bool.true_and]⟩;simp only[badR];exact Ev.bind hx (bo c h1)
  ·refine⟨(i:Int),?_,by simp[c]⟩;simp only[badR];exact Ev.bind hx (dg c (Ev.now _))
def ft (l:List ByteArray):Bool:=l.all gh&&decide (l.length≤30)
theorem xq (l:List ByteArray) (hs:∀x∈l,x.size≤1048576):Ev (fun k=>fh.f k l) (ft l):=by
 unfold fh.f ft
 by_cases c:l.length≤30
 ·obtain⟨r,h1,h2⟩:=xY l hs 0;refine bo c (Ev.bind h1 (eW (Ev.now _) ?_));rw[h2];simp[c]
 ·exact dg c (eW (Ev.now _) (by simp[c]))
end Go.Proofs.YtlecajlnjmbilaaGreatDoor.Q
namespace Go.Proofs.YtlecajlnjmbilaaGreatDoor.Q
open Go.RowKit Go.Proofs.YtlecajlnjmbilaaGreatDoor.P Go.Proofs.ab.aq Go.Proofs.ab.aH Go.Proofs.ab.aK
end Go.Proofs.YtlecajlnjmbilaaGreatDoor.Q
namespace Go.Proofs.YtlecajlnjmbilaaGreatDoor.Q
open Go.RowKit Go.Proofs.YtlecajlnjmbilaaGreatDoor.P Go.Proofs.ab.aq Go.Proofs.ab.aH Go.Proofs.ab.aK
def jf (q:List UInt8):List (List UInt8)→List (List UInt8)
 |[]=>[q]
 |p::ps=>(q++p)::ps
def parts:List UInt8→List (List UInt8)
 |[]=>[[]]
 |b::l=>if b=47 then []::parts l else jf [b] (parts l)
theorem lM (l:List UInt8):parts l≠[]:=by
 cases l with
 |nil=>simp[parts]
 |cons b l=>
  rw[parts]
  split
  ·simp
  ·cases parts l<;>simp[jf]
theorem qU (X:List (List UInt8)) (h:X≠[]):jf [] X=X:=by
 cases X with
 |nil=>exact absurd rfl h
 |cons p ps=>rfl
theorem vI (q r:List UInt8) (X:List (List UInt8)):jf q (jf r X)=jf (q++r) X:=by
 cases X<;>simp[jf]
theorem yR (k:Nat) (b:UInt8) (l:List UInt8) (h:b≠47):Lib.splitK [47] 0 k (b::l)=jf [b] (Lib.splitK [47] 0 k l):=by
 cases k with
 |zero=>rfl
 |succ k=>
  have hp:([47]:List UInt8).isPrefixOf (b::l)=false:=by simp[List.isPrefixOf,Ne.symm h]
  have hix:Lib.index (b::l) [47]=if Lib.index l [47]== -1 then-1 else Lib.index l [47]+1:=by rw[Lib.index,hp];simp
  by_cases hm:Lib.index l [47]= -1
  ·rw[Lib.splitK,Lib.splitK,hix,hm];rfl
  ·have hge:=Lib.index_ge l [47];obtain⟨j,hj⟩:∃j:Nat,Lib.index l [47]=j:=⟨(Lib.index l [47]).toNat,by omega⟩
   have hix':Lib.index (b::l) [47]=((j+1:Nat):Int):=by rw[hix,if_neg (fun e=>hm (beq_iff_eq.1 e)),hj];omega
   have n1:¬(((j+1:Nat):Int)== -1)=true:=fun e=>by have:=beq_iff_eq.1 e;omega
   have n2:¬((j:Int)== -1)=true:=fun e=>by have:=beq_iff_eq.1 e;omega
   rw[Lib.splitK,Lib.splitK,hix',hj,if_neg n1,if_neg n2,Int.toNat_natCast,Int.toNat_natCast];simp[jf]
theorem yS (k:Nat) (l:List UInt8):Lib.splitK [47] 0 (k+1) (47::l)=[]::Lib.splitK [47] 0 k l:=by
 have hix:Lib.index (47::l) [47]=0:=by rw[Lib.index];simp[List.isPrefixOf]
 rw[Lib.splitK,hix,if_neg (by decide)];simp
theorem uA (l:List UInt8):Lib.splitK [47] 0 (Lib.count l [47]) l=parts l:=by
 induction l with
 |nil=>rw[Lib.count_miss (by simp[Lib.index])];rfl
 |cons b l ih=>
  rw[parts]
  by_cases h:b=47
  ·subst h;rw[if_pos rfl,Lib.count_cons_eq,Nat.add_comm,yS,ih]
  ·rw[if_neg h,Lib.count_cons_ne b 47 l h,yR _ _ _ h,ih]
def pA (l:List UInt8):ByteArray:=⟨l.toArray⟩
theorem sy (s:ByteArray):pA s.data.toList=s:=by simp[pA]
theorem vJ (l:List UInt8):(pA l).size=l.length:=by rw[←fZ];simp[pA]
theorem vK (l:List UInt8):(pA l).data.toList=l:=by simp[pA]
theorem uB (s:ByteArray):Lib.splitB ⟨#[47]⟩ 0 (Lib.countB s ⟨#[47]⟩) s=(parts s.data.toList).map pA:=by
 have h:=Lib.splitB_data ⟨#[47]⟩ 0 (Lib.countB s ⟨#[47]⟩) s;have hc:Lib.countB s ⟨#[47]⟩=Lib.count s.data.toList [47]:=rfl;rw[show(⟨#[47]⟩:ByteArray).data.toList=[47]from rfl,hc,uA]at h;rw[hc,←h,List.map_map]
 conv=>lhs;rw[←List.map_id (Lib.splitB _ _ _ _)]
 apply List.map_congr_left
 intro x _;exact(sy x).symm
theorem yT (l:List UInt8):∀p∈parts l,p.length≤l.length:=by
 induction l with
 |nil=>intro p hp;simp[parts]at hp;subst hp;simp
 |cons b l ih=>
  intro p hp;rw[parts]at hp
  split at hp
  ·rcases List.mem_cons.1 hp with rfl|hp
   ·simp
   ·have:=ih p hp;simp;omega
  ·cases hX:parts l with
   |nil=>exact absurd hX (lM l)
   |cons q X=>
    rw[hX]at hp ih;rcases List.mem_cons.1 hp with rfl|hp
    ·have:=ih q (List.mem_cons_self ..);simp;omega
    ·have:=ih p (List.mem_cons_of_mem _ hp);simp;omega
theorem tB (l:List UInt8):(parts l).length≤l.length+1:=by
 induction l with
 |nil=>simp[parts]
 |cons b l ih=>
  rw[parts]
  split
  ·simp;omega
  ·cases hX:parts l with
   |nil=>simp[jf]
   |cons q X=>rw[hX]at ih;simp[jf]at ih⊢;omega
def fu (s:ByteArray):List ByteArray×Bool:=
 if s.toList=([47]:List UInt8)then([],true)else
 match(parts s.data.toList).map pA with
 |[]=>([],false)
 |x::l=>if x.toList=[]∧l≠[]∧ft l=true then(l,true)else([],false)
theorem pO (s:ByteArray) (hs:s.size≤1048576):Ev (fun k=>dy.f k s) (fu s):=by
 unfold dy.f fu;refine yI (fun _=>Ev.now _) (fun _=> ?_)
 have h0:strings_Split.f s ⟨#[47]⟩=some ((parts s.data.toList).map pA):=by
  unfold strings_Split.f;rw[if_pos ⟨by omega,by decide⟩,uB]
 simp only[h0,Option.bind_some];have hps:=yT s.data.toList;have hsz:s.data.toList.length=s.size:=fZ s;have hpl:=tB s.data.toList
 cases hX:parts s.data.toList with
 |nil=>exact absurd hX (lM _)
 |cons p ps=>
  rw[hX]at hps hpl;rw[List.map_cons];refine bo (by rw[List.length_cons];omega) ?_;have hr:iZ ByteArray.empty (pA p::ps.map pA) 0=pA p:=rfl;simp only[hr]
  by_cases c:(pA p).toList=[]
  ·refine bo c ?_
   cases hq:ps with
   |nil=>exact bo (by simp) (eW (Ev.now _) (by simp))
   |cons q qs=>
    rw[←hq]
    have hne:ps.map pA≠[]:=by rw[hq];simp
    have hl:0<ps.length:=by rw[hq];simp
    refine dg (by simp;omega) (bo (by simp;omega) ?_)
    have hn:=xq (ps.map pA) (by
     intro x hx;obtain⟨y,hy,rfl⟩:=List.mem_map.1 hx;rw[vJ];have:=hps y (List.mem_cons_of_mem _ hy)
     omega)
    refine Ev.bind hn ?_
    by_cases g:ft (ps.map pA)=true
    ·exact bo g (eW (Ev.now _) (by rw[if_pos ⟨c,hne,g⟩];rfl))
    ·exact dg g (eW (Ev.now _) (by rw[if_neg (fun h=>g h.2.2)]))
  ·exact dg c (eW (Ev.now _) (by rw[if_neg (fun h=>c h.1)]))
def proc:List ByteArray→List (List UInt8)→Option (List ByteArray)
 |out,[]=>some out
 |out,p::ps=>if gh (pA p)=true then(if out.length=30 then none else proc (out++[pA p]) ps)else none
theorem aco (ps:List (List UInt8)):∀out:List ByteArray,out.length≤30→proc out ps=if(ps.map pA).all gh=true∧out.length+ps.length≤30 then some (out++ps.map pA)else none:=by
 induction ps with
 |nil=>intro out h;simp[proc,h]
 |cons p ps ih=>
  intro out h;rw[proc]
  by_cases c:gh (pA p)=true
  ·rw[if_pos c]
   by_cases d:out.length=30
   ·rw[if_pos d,if_neg (by simp;omega)]
   ·rw[if_neg d,ih _ (by simp;omega)];simp only[List.map_cons,List.all_cons,c,Bool.true_and,List.length_append,List.length_cons,List.length_nil,List.append_assoc,List.singleton_append]
    congr 1
    simp only[Nat.zero_add,Nat.add_assoc,Nat.add_comm 1]
  ·rw[if_neg c,if_neg (by simp[c])]
def uC (s:ByteArray):Option (List ByteArray)→List ByteArray×Bool
 |none=>([],false)
 |some out=>if s.data.toList.head? =some 47 then(out,true)else([],false)
theorem uD (s:ByteArray) (i:Nat) (h:i<s.size):bt s (i:Int)=((s.data.toList[i]'(by rw[fZ];exact h)).toNat:Int):=by
 rw[←iF s (i:Int) (by rw[Int.toNat_natCast];exact h)];simp only[Int.toNat_natCast]
 rfl
theorem u47 (b:UInt8):((b.toNat:Int)=47)↔b=47:=by
 constructor
 ·intro h
  have:b.toNat=47:=by omega
  exact UInt8.toNat_inj.1 (this.trans rfl)
 ·rintro rfl;rfl
theorem oX (s:ByteArray) (out:List ByteArray) (i f:Int) (k:Nat) (h:¬i≤(s.size:Int)):aI.l0 (k+1) s out f i=some (uC s (some out)):=by
 simp only[aI.l0];rw[if_neg h];have hsz:s.data.toList.length=s.size:=fZ s
 cases hd:s.data.toList with
 |nil=>
  rw[hd]at hsz;rw[if_pos (by simp at hsz;omega)];simp[uC,hd]
 |cons b l=>
  have hl:0<s.size:=by rw[←hsz,hd];simp
  rw[if_neg (by omega),if_pos (by omega)];have hb:=uD s 0 hl;simp only[hd,List.getElem_cons_zero]at hb;have hb':bt s 0=(b.toNat:Int):=hb;rw[hb']
  by_cases c:b=47
  ·rw[if_pos ((u47 b).2 c)];simp[uC,hd,c]
  ·rw[if_neg (fun h=>c ((u47 b).1 h))];simp[uC,hd,c]
theorem drop_at (s:ByteArray) (i:Nat) (h:i<s.size):s.data.toList.drop i=(s.data.toList[i]'(by rw[fZ];exact h))::s.data.toList.drop (i+1):=List.drop_eq_getElem_cons _
theorem ou (s:ByteArray) (hs:s.size≤1048576):∀(n i f:Nat) (out:List ByteArray),1≤i→i≤s.size→f≤i→s.size-i=n→out.length≤30→
  Ev (fun k=>aI.l0 k s out f i) (uC s (proc out (jf ((s.data.toList.drop f).take (i-f)) (parts (s.data.toList.drop i))))):=by
 have hsz:s.data.toList.length=s.size:=fZ s;intro n
 induction n with
 |zero=>
  intro i f out h1 hi hf hn ho
  obtain rfl:i=s.size:=by omega
  have hx:(s.extract f s.size)=pA ((s.data.toList.drop f).take (s.size-f)):=by
   rw[←sy (s.extract f s.size)]
   congr 1
   rw[Lib.extract_data]
  have hsl:(s.extract f s.size).size≤9223372036854775807:=by rw[ByteArray.size_extract];omega
  rw[List.drop_eq_nil_of_le (by omega:s.data.toList.length≤s.size)];have hnm:=mj (s.extract f s.size) hsl
  apply aV
  simp only[aI.l0];refine bo (by omega) (dg (by omega) ?_)
  apply aV
  simp only[aI.j1];refine dg (by simp) (bo (by omega) (bo (by omega) (bo (by omega) (bo (by omega) ?_))));simp only[Int.toNat_natCast];refine Ev.bind hnm ?_;rw[hx];simp only[parts,jf,List.append_nil,proc]
  by_cases c:gh (pA ((s.data.toList.drop f).take (s.size-f)))=true
  ·refine bo c ?_;rw[if_pos c]
   by_cases d:out.length=30
   ·rw[if_pos d];exact bo (by omega) (Ev.now _)
   ·rw[if_neg d];refine dg (by omega) (bo (by omega) ?_)
    apply aV
    rw[lr (by omega) (by omega)];simp only[oX s _ _ _ _ (show¬((s.size:Int)+1)≤(s.size:Int) by omega)];exact Ev.now _
  ·rw[if_neg c];exact dg c (Ev.now _)
 |succ n ih=>
  intro i f out h1 hi hf hn ho
  have hlt:i<s.size:=by omega
  have hb:=uD s i hlt;have hd:=drop_at s i hlt;generalize hB:(s.data.toList[i]'(by rw[fZ];exact hlt))=B at hb hd
  have hnx:wrap64 ((i:Int)+1)=((i+1:Nat):Int):=by rw[lr (by omega) (by omega)];omega
  have htk:(s.data.toList.drop f).take (i+1-f)=(s.data.toList.drop f).take (i-f)++[B]:=by
   rw[show i+1-f=(i-f)+1 by omega,List.take_succ_eq_append_getElem (by rw[List.length_drop];omega)]
   congr 2
   rw[List.getElem_drop];simp only[show f+(i-f)=i by omega];exact hB
  apply aV
  simp only[aI.l0];refine bo (by omega) (bo (by omega) (bo (by omega) ?_))
  apply aV
  simp only[aI.j1];rw[hb,hnx]
  by_cases c:B=47
  ·have hx:(s.extract f i)=pA ((s.data.toList.drop f).take (i-f)):=by
    rw[←sy (s.extract f i)]
    congr 1
    rw[Lib.extract_data]
   have hsl:(s.extract f i).size≤9223372036854775807:=by rw[ByteArray.size_extract];omega
   have hnm:=mj (s.extract f i) hsl;rw[hd,parts,if_pos c];refine dg (by simp[(u47 B).2 c]) (bo (by omega) (bo (by omega) (bo (by omega) (bo (by omega) ?_))));simp only[Int.toNat_natCast];refine Ev.bind hnm ?_;rw[hx];simp only[jf,List.append_nil,proc]
   by_cases cn:gh (pA ((s.data.toList.drop f).take (i-f)))=true
   ·refine bo cn ?_;rw[if_pos cn]
    by_cases d:out.length=30
    ·rw[if_pos d];exact bo (by omega) (Ev.now _)
    ·rw[if_neg d];refine dg (by omega) (bo (by omega) ?_);have:=ih (i+1) (i+1) (out++[pA ((s.data.toList.drop f).take (i-f))]) (by omega) (by omega) (Nat.le_refl _) (by omega) (by simp;omega);rw[Nat.sub_self,List.take_zero,qU _ (lM _)]at this;exact this
   ·rw[if_neg cn];exact dg cn (Ev.now _)
  ·rw[hd,parts,if_neg c,vI,←htk];refine bo (by simpa using fun h=>c ((u47 B).1 h)) ?_;exact ih (i+1) f out (by omega) (by omega) (by omega) (by omega) ho
theorem sA (s:ByteArray) (hs:s.size≤1048576):Ev (fun k=>aI.f k s) (fu s):=by
 have hsz:s.data.toList.length=s.size:=fZ s;unfold aI.f fu;simp only[Option.bind_some];refine yI (fun _=>Ev.now _) (fun _=> ?_)
 cases hd:s.data.toList with
 |nil=>
  rw[hd]at hsz
  have h0:s.size=0:=by simpa using hsz.symm
  apply aV
  simp only[aI.l0];refine bo (by omega) (dg (by omega) ?_)
  apply aV
  simp only[aI.j1];refine dg (by simp) (dg (by omega) ?_)
  apply aV
  simp only[oX s _ _ _ _ (show¬(wrap64 (0+1))≤(s.size:Int) by rw[h0,lr (by omega) (by omega)];omega)];exact eW (Ev.now _) (by simp[uC,hd,parts])
 |cons b l=>
  have hl:0<s.size:=by rw[←hsz,hd];simp
  have hb:=uD s 0 hl;simp only[hd,List.getElem_cons_zero]at hb;have hb':bt s 0=(b.toNat:Int):=hb
  apply aV
  simp only[aI.l0];refine bo (by omega) (bo (by omega) (bo (by omega) ?_))
  apply aV
  simp only[aI.j1];rw[hb',show wrap64 (0+1)=((1:Nat):Int)from lr (by omega) (by omega)]
  by_cases c:b=47
  ·refine dg (by simp[(u47 b).2 c]) (dg (by omega) ?_);have:=ou s hs (s.size-1) 1 1 [] (by omega) (by omega) (Nat.le_refl _) rfl (by simp);refine eW this ?_;rw[Nat.sub_self,List.take_zero,qU _ (lM _),aco _ _ (by simp),hd,parts,if_pos c];simp only[List.drop_succ_cons,List.drop_zero,List.map_cons,List.length_nil,Nat.zero_add,List.nil_append]
   have hne:(parts l).map pA≠[]:=by
    intro h;exact lM l (List.map_eq_nil_iff.1 h)
   have he:(pA []).toList=[]:=by rw[toList_data,vK]
   by_cases g:ft ((parts l).map pA)=true
   ·have g':=g;simp only[ft,List.length_map,Bool.and_eq_true,decide_eq_true_eq]at g';rw[if_pos g',if_pos ⟨he,hne,g⟩];simp[uC,hd,c]
   ·have g':¬(((parts l).map pA).all gh=true∧(parts l).length≤30):=by
     intro h;apply g;simp only[ft,List.length_map,Bool.and_eq_true,decide_eq_true_eq];exact h
    rw[if_neg g',if_neg (fun h=>g h.2.2)]
    rfl
  ·refine bo (by simpa using fun h=>c ((u47 b).1 h)) ?_;have:=ou s hs (s.size-1) 1 0 [] (by omega) (by omega) (by omega) rfl (by simp);refine eW this ?_
   have hf:∀x,uC s x=([],false):=by
    intro x
    cases x with
    |none=>rfl
    |some out=>simp[uC,hd,c]
   rw[hf,parts,if_neg c]
   cases hX:parts l with
   |nil=>exact absurd hX (lM l)
   |cons p ps=>
    simp only[jf,List.map_cons];rw[if_neg];intro h;have:=h.1;rw[toList_data,vK]at this;simp at this
end Go.Proofs.YtlecajlnjmbilaaGreatDoor.Q
namespace Go.Proofs.YtlecajlnjmbilaaGreatDoor.Q
open Go.RowKit Go.Proofs.YtlecajlnjmbilaaGreatDoor.P Go.Proofs.ab.aq Go.Proofs.ab.aH Go.Proofs.ab.aK
theorem xZ (b:ByteArray):b++(⟨#[]⟩:ByteArray)=b:=ByteArray.ext (by rw[ByteArray.data_append];simp)
theorem acp (b:ByteArray):(⟨#[]⟩:ByteArray)++b=b:=ByteArray.ext (by rw[ByteArray.data_append];simp)
def oZ:List ByteArray→ByteArray
 |[]=>⟨#[]⟩
 |x::l=>(⟨#[47]⟩++x)++oZ l
theorem sB (l:List ByteArray):(oZ l).size=l.length+jm l:=by
 induction l with
 |nil=>rfl
 |cons x l ih=>
  rw[oZ,ByteArray.size_append,ByteArray.size_append,ih];have:(⟨#[47]⟩:ByteArray).size=1:=rfl;simp only[jm,List.map_cons,List.sum_cons,List.length_cons]at*
  omega
theorem xr (l:List (List UInt8)):jm (l.map pA)=(l.map List.length).sum:=by
 unfold jm;rw[List.map_map];exact congrArg List.sum (List.map_congr_left fun x _=>vJ x)
theorem yU (l:List UInt8):((parts l).map List.length).sum≤l.length:=by
 induction l with
 |nil=>simp[parts]
 |cons b l ih=>
  rw[parts]
  split
  ·simp;omega
  ·cases hX:parts l with
   |nil=>exact absurd hX (lM l)
   |cons q X=>rw[hX]at ih;simp[jf]at ih⊢;omega
theorem nr (s:ByteArray):(fu s).1.length≤s.size∧jm (fu s).1≤s.size:=by
 have h1:=tB s.data.toList;have h2:=yU s.data.toList;rw[fZ]at h1 h2;unfold fu
 split
 ·simp[jm]
 ·split
  ·simp[jm]
  ·rename_i x l hX
   split
   ·cases hP:parts s.data.toList with
    |nil=>exact absurd hP (lM _)
    |cons p ps=>
     rw[hP]at hX h1 h2;simp only[List.map_cons,List.cons.injEq]at hX;obtain⟨_,rfl⟩:=hX;simp only[List.length_map,xr];simp only[List.map_cons,List.sum_cons,List.length_cons]at h1 h2
     omega
   ·simp[jm]
theorem sC (l:List ByteArray) (n:Nat):jm (l.take n)≤jm l:=by
 induction l generalizing n with
 |nil=>simp
 |cons x l ih=>
  cases n with
  |zero=>simp[jm]
  |succ n=>have:=ih n;simp[jm]at this⊢;omega
def sD (l:List ByteArray):ByteArray:=if l.length=0 then⟨#[47]⟩else if ft l=true then oZ l else⟨#[]⟩
theorem acq (s:ByteArray) (h:gh s=true):(∀b∈s.data.toList,b≠47)∧1≤s.size∧s.size≤14:=by
 unfold gh ll at h;simp only[Bool.and_eq_true,decide_eq_true_eq]at h;refine⟨fun b hb e=> ?_,h.2.1.1⟩;have:=List.all_eq_true.1 h.1 (b.toNat:Int) (by unfold bytesOf;exact List.mem_map.2 ⟨b,hb,rfl⟩);subst e;exact absurd this (by decide)
theorem xt (l:List ByteArray) (hg:ft l=true):(sD l).size=max 1 (l.length+jm l):=by
 unfold sD
 by_cases c:l.length=0
 ·rw[if_pos c,List.eq_nil_of_length_eq_zero c];rfl
 ·rw[if_neg c,if_pos hg,sB];omega
end Go.Proofs.YtlecajlnjmbilaaGreatDoor.Q
namespace Go.Proofs.YtlecajlnjmbilaaGreatDoor.Q
open Go.RowKit Go.Proofs.YtlecajlnjmbilaaGreatDoor.P Go.Proofs.ab.aq Go.Proofs.ab.aH Go.Proofs.ab.aK
def tC (T:List bf):List ByteArray→Int→Int×Int
 |[],ino=>(ino,0)
 |n::l,ino=>if eX T ino=true then(if(fF T ino).f1=2 then(if lL n (fF T ino).f4=0 then(0,2)else tC T l (lL n (fF T ino).f4))else(0,3))else(0,2)
def lv (T:List bf) (s:ByteArray):Int×Int:=if(fu s).2=true then tC T (fu s).1 1 else(0,1)
theorem vL {γ:Type}(L:Nat→Int→Int→Option γ) (xs:List ByteArray) (F:List ByteArray→Int→γ) (h1:∀ino,Ev (fun k=>L k ino (xs.length:Nat)) (F [] ino))
  (h2:∀(i:Nat) (hi:i<xs.length) (ino:Int),(∀aef,Ev (fun k=>L k aef ((i+1:Nat):Int)) (F (xs.drop (i+1)) aef))→Ev (fun k=>L k ino (i:Nat)) (F (xs[i]::xs.drop (i+1)) ino)) (ino:Int):Ev (fun k=>L k ino 0) (F xs ino):=by
 have key:∀m i:Nat,xs.length-i=m→i≤xs.length→∀ino,Ev (fun k=>L k ino (i:Nat)) (F (xs.drop i) ino):=by
  intro m
  induction m with
  |zero=>
   intro i hm hi ino
   obtain rfl:i=xs.length:=by omega
   rw[List.drop_length];exact h1 ino
  |succ m ih=>
   intro i hm hi ino;rw[List.drop_eq_getElem_cons (by omega)];exact h2 i (by omega) ino (ih (i+1) (by omega) (by omega))
 simpa using key xs.length 0 (by omega) (by omega) ino
theorem yV (T:List bf) (nx:Int) (s:ByteArray) (hT:T.length≤1048576) (hs:∀x∈T,ia x) (h:s.size≤1048576):Ev (fun k=>fp.f k T nx s) (lv T s):=by
 unfold fp.f lv;refine Ev.bind (pO s h) ?_;have hl:=(nr s).1;generalize fu s=p at*;refine yI (fun _=> ?_) (fun _=>Ev.now _);refine vL (fun k ino i=>fp.l0 k ino p.1 p.1.length i T nx) p.1 (tC T) (fun ino=> ?_) (fun i hi ino ih=> ?_) 1
 ·apply aV
  simp only[fp.l0];exact dg (by omega) (Ev.now _)
 ·have hx:=jl T ino hs
  apply aV
  simp only[fp.l0,tC];rw[adB i p.1.length hi (by omega),rdS p.1 i hi];refine bo (by omega) (bo (by omega) (bo (by omega) (Ev.bind (ob T nx ino hT hs) ?_)));refine yI (fun _=>yI (fun _=> ?_) (fun _=>Ev.now _)) (fun _=>Ev.now _);refine Ev.bind (sx _ _ _ _ _ _ p.1[i] (by have:=hx.e;dsimp only;omega)) ?_;exact yI (fun _=>Ev.now _) (fun _=>ih _)
theorem yW (T:List bf) (nx:Int) (s:ByteArray) (hT:T.length≤1048576) (hs:∀x∈T,ia x) (h:s.size≤1048576):Ev (fun k=>kp.f k T nx s) (lv T s):=by
 unfold kp.f lv;refine Ev.bind (sA s h) ?_;have hl:=(nr s).1;generalize fu s=p at*;refine yI (fun _=> ?_) (fun _=>Ev.now _);unfold cM.f;refine Ev.bind (vL (fun k ino i=>cM.l0 k p.1 ino i T nx) p.1 (tC T) (fun ino=> ?_) (fun i hi ino ih=> ?_) 1) (Ev.now _)
 ·apply aV
  simp only[cM.l0];exact dg (by omega) (Ev.now _)
 ·have hx:=jl T ino hs;have hr:=kT ino T 0
  apply aV
  simp only[cM.l0,tC];rw[adB i p.1.length hi (by omega),rdS p.1 i hi];refine bo (by omega) (Ev.bind (pj T nx ino hT) ?_)
  by_cases c:cC ino T 0<0
  ·have hn:¬eX T ino=true:=by simp only[eX,decide_eq_true_eq];omega
   rw[if_neg hn];exact bo c (Ev.now _)
  ·have hy:eX T ino=true:=by simp only[eX,decide_eq_true_eq];omega
   have hi':fF T ino=af T (cC ino T 0):=by simp only[fF,if_neg c]
   rw[if_pos hy,hi'];rw[hi']at hx;refine dg c (bo (by omega) (bo (by omega) (yI (fun _=>bo (by omega) ?_) (fun _=>Ev.now _))));refine Ev.bind (sw _ _ _ _ _ _ p.1[i] (by have:=hx.e;omega)) ?_;exact yI (fun _=>Ev.now _) (fun _=>ih _)
end Go.Proofs.YtlecajlnjmbilaaGreatDoor.Q
namespace Go.Proofs.YtlecajlnjmbilaaGreatDoor.Q
open Go.RowKit Go.Proofs.YtlecajlnjmbilaaGreatDoor.P Go.Proofs.ab.aq Go.Proofs.ab.aH Go.Proofs.ab.aK
def my:bf:=⟨0,0,0,[],[],[]⟩
def im (T:List bf) (s:ByteArray):bf×Int:=
 if(lv T s).2=0 then(if eX T (lv T s).1=true then(fF T (lv T s).1,0)else(my,2))else(my,(lv T s).2)
def tup (p:bf×Int):Int×Int×Int×List Int×List cz×List ei×Int:=(p.1.f0,p.1.f1,p.1.f2,p.1.f3,p.1.f4,p.1.f5,p.2)
theorem qV (T:List bf) (s:ByteArray) (hs:∀x∈T,ia x):ia (im T s).1:=by
 unfold im
 split
 ·split
  ·exact jl T _ hs
  ·exact⟨by simp[my],by simp[my],by simp[my]⟩
 ·exact⟨by simp[my],by simp[my],by simp[my]⟩
theorem yX (T:List bf) (nx:Int) (s:ByteArray) (hT:T.length≤1048576) (hs:∀x∈T,ia x) (h:s.size≤1048576):Ev (fun k=>kr.f k T nx s) (tup (im T s)):=by
 unfold kr.f;refine Ev.bind (yV T nx s hT hs h) ?_
 by_cases c:(lv T s).2=0
 ·refine bo c (Ev.bind (ob T nx _ hT hs) ?_)
  by_cases d:eX T (lv T s).1=true
  ·exact bo d (eW (Ev.now _) (by simp only[im,tup,if_pos c,if_pos d]))
  ·exact dg d (eW (Ev.now _) (by simp only[im,tup,if_pos c,if_neg d];rfl))
 ·exact dg c (eW (Ev.now _) (by simp only[im,tup,if_neg c];rfl))
theorem yY (T:List bf) (nx:Int) (s:ByteArray) (hT:T.length≤1048576) (hs:∀x∈T,ia x) (h:s.size≤1048576):Ev (fun k=>iA.f k T nx s) (tup (im T s)):=by
 unfold iA.f;refine Ev.bind (yW T nx s hT hs h) ?_
 by_cases c:(lv T s).2=0
 ·refine bo c (Ev.bind (qj T nx _ hT hs) ?_)
  by_cases d:eX T (lv T s).1=true
  ·exact bo d (eW (Ev.now _) (by simp only[im,tup,if_pos c,if_pos d]))
  ·exact dg d (eW (Ev.now _) (by simp only[im,tup,if_pos c,if_neg d];rfl))
 ·exact dg c (eW (Ev.now _) (by simp only[im,tup,if_neg c];rfl))
end Go.Proofs.YtlecajlnjmbilaaGreatDoor.Q
namespace Go.Proofs.YtlecajlnjmbilaaGreatDoor.Q
open Go.RowKit Go.Proofs.YtlecajlnjmbilaaGreatDoor.P Go.Proofs.ab.aq Go.Proofs.ab.aH Go.Proofs.ab.aK
theorem xu:∀(a b:List Int),a.Pairwise (·<·)→b.Pairwise (·<·)→(∀x,x∈a↔x∈b)→a=b
 |[],[],_,_,_=>rfl
 |[],y::b,_,_,h=>absurd ((h y).2 (List.mem_cons_self ..)) (by simp)
 |x::a,[],_,_,h=>absurd ((h x).1 (List.mem_cons_self ..)) (by simp)
 |x::a,y::b,ha,hb,h=>by
  obtain⟨ha1,ha2⟩:=List.pairwise_cons.1 ha;obtain⟨hb1,hb2⟩:=List.pairwise_cons.1 hb
  have hxy:x=y:=by
   rcases List.mem_cons.1 ((h x).1 (List.mem_cons_self ..))with h1|h1
   ·exact h1
   ·rcases List.mem_cons.1 ((h y).2 (List.mem_cons_self ..))with h2|h2
    ·exact h2.symm
    ·have:=hb1 x h1;have:=ha1 y h2;omega
  subst hxy;rw[xu a b ha2 hb2 (fun z=> ?_)]
  constructor
  ·intro hz;rcases List.mem_cons.1 ((h z).1 (List.mem_cons_of_mem _ hz))with rfl|h1
   ·have:=ha1 z hz;omega
   ·exact h1
  ·intro hz;rcases List.mem_cons.1 ((h z).2 (List.mem_cons_of_mem _ hz))with rfl|h1
   ·have:=hb1 z hz;omega
   ·exact h1
theorem yZ (l:List Int) (x:Int):x∈om l↔x∈l:=List.mem_mergeSort ..
theorem abw (l:List Int) (h:l.Nodup):(om l).Pairwise (·<·):=by
 have h1:(om l).Pairwise fun x y=>decide (x≤y)=true:=List.pairwise_mergeSort (fun a b c h1 h2=>by simp at*;omega) (fun a b=>by simp;omega) l
 have h2:(om l).Nodup:=(List.mergeSort_perm l _).nodup_iff.2 h;exact(h1.and h2).imp (fun⟨a,b⟩=>by simp at a;omega)
def uH (xs:List Int) (n:Int):Nat→Nat
 |0=>0
 |k+1=>if xs.getD k 0>n then uH xs n k else k+1
def sE (xs:List Int) (n:Int):List Int:=if n∈xs then xs else xs.take (uH xs n xs.length)++[n]++xs.drop (uH xs n xs.length)
theorem abx (xs:List Int) (n:Int):∀k,uH xs n k≤k
 |0=>Nat.le_refl _
 |k+1=>by rw[uH];split;exact Nat.le_succ_of_le (abx xs n k);exact Nat.le_refl _
theorem vM (xs:List Int) (n x:Int):x∈sE xs n↔x∈xs∨x=n:=by
 unfold sE
 split
 ·constructor
  ·exact .inl
  ·rintro(h|rfl)<;>assumption
 ·rw[List.mem_append,List.mem_append,List.mem_singleton]
  conv=>rhs;rw[←List.take_append_drop (uH xs n xs.length) xs,List.mem_append]
  constructor
  ·rintro((h|h)|h)
   ·exact .inl (.inl h)
   ·exact .inr h
   ·exact .inl (.inr h)
  ·rintro((h|h)|h)
   ·exact .inl (.inl h)
   ·exact .inr h
   ·exact .inl (.inr h)
theorem aby (xs:List Int) (n:Int):∀k,k≤xs.length→∀j,uH xs n k≤j→j<k→xs.getD j 0>n
 |0,_,j,_,h=>by omega
 |k+1,hk,j,h1,h2=>by
  rw[uH]at h1
  split at h1
  ·rcases Nat.lt_or_ge j k with h|h
   ·exact aby xs n k (by omega) j h1 h
   ·obtain rfl:j=k:=by omega
    assumption
  ·omega
theorem abz (xs:List Int) (n:Int):∀k,0<uH xs n k→¬xs.getD (uH xs n k-1) 0>n
 |0,h=>by simp[uH]at h
 |k+1,h=>by
  rw[uH]at h⊢
  split
  ·rename_i hc;rw[if_pos hc]at h;exact abz xs n k h
  ·rename_i hc;simpa using hc
theorem x_ (xs:List Int) (n:Int) (h:xs.Pairwise (·<·)):(sE xs n).Pairwise (·<·):=by
 unfold sE
 split
 ·exact h
 ·rename_i hn
  have hle:=abx xs n xs.length;have hgt:=aby xs n xs.length (Nat.le_refl _);have hat:=abz xs n xs.length;generalize uH xs n xs.length=j at hle hgt hat;have hp:=List.pairwise_iff_getElem.1 h
  have h1:∀a∈xs.take j,a<n:=fun a ha=>by
   obtain⟨i,hi,rfl⟩:=List.getElem_of_mem ha;rw[List.length_take]at hi;rw[List.getElem_take];have hj:=hat (by omega);rw[List.getD_eq_getElem?_getD,List.getElem?_eq_getElem (by omega),Option.getD_some]at hj
   have hne:xs[j-1]≠n:=fun e=>hn (e▸List.getElem_mem _)
   rcases Nat.lt_or_ge i (j-1)with hl|hg
   ·have:=hp i (j-1) (by omega) (by omega) hl;omega
   ·obtain rfl:i=j-1:=by omega
    omega
  have h2:∀b∈xs.drop j,n<b:=fun b hb=>by
   obtain⟨i,hi,rfl⟩:=List.getElem_of_mem hb;rw[List.length_drop]at hi;rw[List.getElem_drop];have:=hgt (j+i) (by omega) (by omega);rw[List.getD_eq_getElem?_getD,List.getElem?_eq_getElem (by omega),Option.getD_some]at this;exact this
  rw[List.pairwise_append,List.pairwise_append];refine⟨⟨h.sublist (List.take_sublist ..),List.pairwise_singleton ..,fun a ha b hb=>by rw[List.mem_singleton.1 hb];exact h1 a ha⟩,h.sublist (List.drop_sublist ..),fun a ha b hb=> ?_⟩;rcases List.mem_append.1 ha with ha|ha
  ·have:=h1 a ha;have:=h2 b hb;omega
  ·rw[List.mem_singleton.1 ha];exact h2 b hb
end Go.Proofs.YtlecajlnjmbilaaGreatDoor.Q
namespace Go.Proofs.YtlecajlnjmbilaaGreatDoor.Q
open Go.RowKit Go.Proofs.YtlecajlnjmbilaaGreatDoor.P Go.Proofs.ab.aq Go.Proofs.ab.aH Go.Proofs.ab.aK
theorem pk:∀(xs U:List Int),xs.Nodup→(∀x∈xs,x∈U)→xs.length≤U.length
 |[],_,_,_=>Nat.zero_le _
 |x::xs,U,h,hs=>by
  obtain⟨h1,h2⟩:=List.nodup_cons.1 h;have hx:=hs x (List.mem_cons_self ..);have:=pk xs (U.erase x) h2 (fun y hy=>(List.mem_erase_of_ne (fun(e:y=x)=>h1 (e▸hy))).2 (hs y (List.mem_cons_of_mem _ hy)));rw[List.length_erase_of_mem hx]at this;have:=List.length_pos_of_mem hx;simp only[List.length_cons]
  omega
theorem tD (xs U:List Int) (h:xs.Nodup) (hs:∀x∈xs,x∈U) (hl:U.length≤xs.length):∀y∈U,y∈xs:=fun y hy=>by
 apply Classical.byContradiction
 intro hn
 have:=pk (y::xs) U (List.nodup_cons.2 ⟨hn,h⟩) (fun z hz=>by
  rcases List.mem_cons.1 hz with rfl|hz
  ·exact hy
  ·exact hs z hz)
 simp only[List.length_cons]at this
 omega
theorem sF {l:List Int}(h:l.Pairwise (·<·)):l.Nodup:=h.imp (fun h e=>by omega)
section
variable (ex:Int→Bool) (kids:Int→List Int)
def oc (out es:List Int):List Int:=es.foldl (fun o e=>if ex e=true then sE o e else o) out
def pB (xs:List Int):List Int:=oc ex xs (xs.flatMap kids)
def za:Nat→List Int→List Int
 |0,xs=>xs
 |n+1,xs=>za n (pB ex kids xs)
def vN (xs:List Int):Prop:=∀x∈xs,∀y∈kids x,ex y=true→y∈xs
theorem vO (es:List Int):∀(out:List Int) (x:Int),x∈oc ex out es↔x∈out∨(x∈es∧ex x=true):=by
 induction es with
 |nil=>intro out x;simp[oc]
 |cons e es ih=>
  intro out x
  show x∈oc ex (if ex e=true then sE out e else out) es↔_
  rw[ih]
  by_cases c:ex e=true
  ·rw[if_pos c,vM,List.mem_cons]
   constructor
   ·rintro((h|rfl)|⟨h,k⟩)
    ·exact .inl h
    ·exact .inr ⟨.inl rfl,c⟩
    ·exact .inr ⟨.inr h,k⟩
   ·rintro(h|⟨rfl|h,k⟩)
    ·exact .inl (.inl h)
    ·exact .inl (.inr rfl)
    ·exact .inr ⟨h,k⟩
  ·rw[if_neg c,List.mem_cons]
   constructor
   ·rintro(h|⟨h,k⟩)
    ·exact .inl h
    ·exact .inr ⟨.inr h,k⟩
   ·rintro(h|⟨rfl|h,k⟩)
    ·exact .inl h
    ·exact absurd k c
    ·exact .inr ⟨h,k⟩
theorem rE (es:List Int):∀(out:List Int),out.Pairwise (·<·)→(oc ex out es).Pairwise (·<·):=by
 induction es with
 |nil=>intro out h;exact h
 |cons e es ih=>
  intro out h
  show(oc ex (if ex e=true then sE out e else out) es).Pairwise (·<·)
  refine ih _ ?_
  split
  ·exact x_ out e h
  ·exact h
theorem mn (xs:List Int) (y:Int):y∈pB ex kids xs↔y∈xs∨((∃x∈xs,y∈kids x)∧ex y=true):=by
 unfold pB;rw[vO,List.mem_flatMap]
theorem abA:∀n (xs:List Int),xs.Pairwise (·<·)→(za ex kids n xs).Pairwise (·<·)
 |0,_,h=>h
 |n+1,xs,h=>abA n _ (rE ex _ _ h)
theorem ya:∀n (xs:List Int),∀x∈xs,x∈za ex kids n xs
 |0,_,_,h=>h
 |n+1,xs,x,h=>ya n _ x ((mn ex kids xs x).2 (.inl h))
theorem abB (K:List Int) (hK:vN ex kids K):∀n (xs:List Int),(∀x∈xs,x∈K)→∀x∈za ex kids n xs,x∈K
 |0,_,h=>h
 |n+1,xs,h=>abB K hK n _ (fun x hx=>by
  rcases(mn ex kids xs x).1 hx with hx|⟨⟨z,hz,hk⟩,he⟩
  ·exact h x hx
  ·exact hK z (h z hz) x hk he)
theorem yb (xs:List Int) (h:pB ex kids xs=xs):∀n,za ex kids n xs=xs
 |0=>rfl
 |n+1=>by rw[za,h];exact yb xs h n
theorem vP (U:List Int) (hU:∀y,ex y=true→y∈U):∀n (xs:List Int),xs.Pairwise (·<·)→(∀x∈xs,x∈U)→U.length≤xs.length+n→vN ex kids (za ex kids n xs)
 |0,xs,h,hs,hl=>fun x _ y _ he=>tD xs U (sF h) hs hl y (hU y he)
 |n+1,xs,h,hs,hl=>by
  by_cases c:pB ex kids xs=xs
  ·rw[yb ex kids xs c];intro x hx y hy he;rw[←c];exact(mn ex kids xs y).2 (.inr ⟨⟨x,hx,hy⟩,he⟩)
  ·refine vP U hU n _ (rE ex _ _ h) (fun x hx=> ?_) ?_
   ·rcases(mn ex kids xs x).1 hx with hx|⟨_,he⟩
    ·exact hs x hx
    ·exact hU x he
   ·have:xs.length<(pB ex kids xs).length:=by
     apply Classical.byContradiction
     intro hn;refine c (xu _ _ (rE ex _ _ h) h (fun x=>⟨fun hx=> ?_,fun hx=>(mn ex kids xs x).2 (.inl hx)⟩));exact tD xs (pB ex kids xs) (sF h) (fun y hy=>(mn ex kids xs y).2 (.inl hy)) (by omega) x hx
    omega
theorem xv (U out:List Int) (hU:∀y,ex y=true→y∈U) (h1:ex 1=true) (hn:out.Nodup) (ho:vN ex kids out) (h1o:1∈out) (hmin:∀K:List Int,vN ex kids K→1∈K→∀x∈out,x∈K):
  om out=za ex kids U.length [1]:=by
 have hs:=vP ex kids U hU U.length [1] (List.pairwise_singleton ..) (fun x hx=>by rw[List.mem_singleton.1 hx];exact hU 1 h1) (by omega);refine xu _ _ (abw out hn) (abA ex kids _ _ (List.pairwise_singleton ..)) (fun x=> ?_);rw[yZ];exact⟨hmin _ hs (ya ex kids _ _ 1 (List.mem_singleton.2 rfl)) x,abB ex kids out ho _ _ (fun y hy=>by rw[List.mem_singleton.1 hy];exact h1o) x⟩
end
end Go.Proofs.YtlecajlnjmbilaaGreatDoor.Q
namespace Go.Proofs.YtlecajlnjmbilaaGreatDoor.Q
open Go.RowKit Go.Proofs.YtlecajlnjmbilaaGreatDoor.P Go.Proofs.ab.aq Go.Proofs.ab.aH Go.Proofs.ab.aK
theorem rdI (xs:List Int) (i:Nat) (h:i<xs.length):rd xs (i:Int)=xs[i]:=by
 simp[rd,List.getD_eq_getElem?_getD,List.getElem?_eq_getElem h]
theorem abC (xs:List Int) (n:Int) (hl:xs.length≤9223372036854775807):Ev (fun k=>eU.f k xs n) (decide (n∈xs)):=by
 have key:=down (n:=xs.length) (P:=fun i=>Ev (fun k=>eU.l0 k xs n (i:Nat)) (decide (n∈xs.drop i))) (by
   apply aV
   simp only[eU.l0,List.drop_length]
   exact dg (by omega) (eW (Ev.now _) (by simp))) (fun i hi h=>by
   apply aV
   simp only[eU.l0,rdI xs i hi];rw[nK i xs.length hi hl,List.drop_eq_getElem_cons hi];refine bo (by omega) (bo (by omega) ?_)
   by_cases c:xs[i]=n
   ·exact bo c (eW (Ev.now _) (by simp[c]))
   ·exact dg c (eW h (decide_eq_decide.2 ⟨fun h=>List.mem_cons_of_mem _ h,fun h=>(List.mem_cons.1 h).resolve_left (fun e=>c e.symm)⟩)))
 simpa [eU.f]using key
theorem xw (xs:List Int) (n:Int) (hl:xs.length≤17592186044415):∀(j:Nat),j≤xs.length→∀c:Int,Ev (fun k=>dn.l0 k n (xs.take j++[c]++xs.drop j) (j:Nat)) (xs.take (uH xs n j)++[n]++xs.drop (uH xs n j)):=by
 have hset:∀(j:Nat) (c m:Int),j≤xs.length→(xs.take j++[c]++xs.drop j).set j m=xs.take j++[m]++xs.drop j:=fun j c m hj=>by
  have ht:(xs.take j).length=j:=by rw[List.length_take];omega
  rw[List.append_assoc,List.set_append_right _ _ (by omega),ht,Nat.sub_self,List.append_assoc];rfl
 have hlen:∀(j:Nat) (c:Int),j≤xs.length→(xs.take j++[c]++xs.drop j).length=xs.length+1:=fun j c hj=>by
  simp only[List.length_append,List.length_take,List.length_drop,List.length_singleton];omega
 intro j
 induction j with
 |zero=>
  intro hj c
  apply aV
  simp only[dn.l0,hlen 0 c hj,Int.toNat_natCast,hset 0 c n hj,uH];exact dg (by omega) (bo (by omega) (bo (by omega) (Ev.now _)))
 |succ j ih=>
  intro hj c
  have hw:wrap64 (((j+1:Nat):Int)-1)=(j:Nat):=by rw[show((j+1:Nat):Int)-1=(j:Nat) by omega];exact lr (by omega) (by omega)
  have hr:rd (xs.take (j+1)++[c]++xs.drop (j+1)) (j:Nat)=xs[j]:=by
   rw[rdI _ j (by rw[hlen _ _ hj];omega)];rw[List.getElem_append_left (by simp only[List.length_append,List.length_take,List.length_singleton];omega),List.getElem_append_left (by rw[List.length_take];omega),List.getElem_take]
  apply aV
  simp only[dn.l0,hw,hr,hlen _ c hj,Int.toNat_natCast,hset (j+1) c _ hj];refine bo (by omega) (bo (by omega) (bo (by omega) ?_))
  have hg:xs.getD j 0=xs[j]:=by rw[List.getD_eq_getElem?_getD,List.getElem?_eq_getElem (by omega)];rfl
  by_cases cc:xs[j]>n
  ·refine bo cc (bo (by omega) (bo (by omega) ?_))
   have e:xs.take (j+1)++[xs[j]]++xs.drop (j+1)=xs.take j++[xs[j]]++xs.drop j:=by
    rw[List.take_succ_eq_append_getElem (by omega),List.append_assoc,List.append_assoc,List.append_assoc,List.drop_eq_getElem_cons (i:=j) (by omega)];rfl
   rw[e,uH,if_pos (by rw[hg];exact cc)];exact ih (by omega) _
  ·refine dg cc (bo (by omega) (bo (by omega) (eW (Ev.now _) ?_)));rw[uH,if_neg (by rw[hg];exact cc)]
theorem abD (xs:List Int) (n:Int) (hl:xs.length≤17592186044414):Ev (fun k=>dn.f k xs n) (sE xs n):=by
 unfold dn.f;refine Ev.bind (abC xs n (by omega)) ?_
 by_cases c:n∈xs
 ·refine bo (by simp[c]) (eW (Ev.now _) ?_);unfold sE;rw[if_pos c]
 ·refine dg (by simp[c]) ?_;simp only[Option.bind_some,List.nil_append,List.length_nil];refine bo (by omega) (bo (by omega) ?_);have h:=xw xs n (by omega) xs.length (Nat.le_refl _) n;rw[List.take_length,List.drop_length,List.append_nil]at h
  have hw:wrap64 (((xs++[n]).length:Int)-1)=(xs.length:Nat):=by
   rw[List.length_append,List.length_singleton,show((xs.length+1:Nat):Int)-1=(xs.length:Nat) by omega];exact lr (by omega) (by omega)
  rw[hw];refine eW h ?_;unfold sE;rw[if_neg c]
end Go.Proofs.YtlecajlnjmbilaaGreatDoor.Q
namespace Go.Proofs.YtlecajlnjmbilaaGreatDoor.Q
open Go.RowKit Go.Proofs.YtlecajlnjmbilaaGreatDoor.P Go.Proofs.ab.aq Go.Proofs.ab.aH Go.Proofs.ab.aK
def iY (l:List bf) (n:Int):List Int:=if eX l n=true∧(fF l n).f1=2 then(fF l n).f4.map (·.f1)else []
theorem xx (l:List bf) (n:Int) (h:eX l n=true):n∈l.map (·.f0):=by
 apply Classical.byContradiction
 intro hn;have:=vo n l 0 (fun x hx e=>hn (List.mem_map.2 ⟨x,hx,e⟩));unfold eX at h;rw[this]at h;simp at h
structure qk (l:List bf) (xs:List Int):Prop where
 lt:xs.Pairwise (·<·)
 ex:∀x∈xs,eX l x=true
theorem qk.len {l:List bf}{xs:List Int}(h:qk l xs):xs.length≤l.length:=by
 have:=pk xs (l.map (·.f0)) (sF h.lt) (fun x hx=>xx l x (h.ex x hx))
 rwa [List.length_map]at this
theorem qk.put {l:List bf}{xs:List Int}(h:qk l xs) (n:Int) (hn:eX l n=true):qk l (sE xs n):=
 ⟨x_ xs n h.lt,fun x hx=>by rcases(vM xs n x).1 hx with hx|rfl;exact h.ex x hx;exact hn⟩
theorem zb (l:List bf) (nx:Int) (xs:List Int) (i:Int) (x:bf) (R:List Int) (hl:l.length≤1048576) (he:x.f4.length≤1048576) (hk:x.f1=2)
  (fin:List Int) (hfin:Ev (fun k=>az.l0 k xs fin (wrap64 (i+1)) l nx) R):
  ∀(m:Nat),m≤x.f4.length→∀out,qk l out→oc (eX l) out ((x.f4.drop (x.f4.length-m)).map (·.f1))=fin→Ev (fun k=>az.l1 k xs out i true ((x.f4.length-m:Nat):Int) l nx x.f0 x.f1 x.f2 x.f3 x.f4 x.f5) R:=by
 intro m
 induction m with
 |zero=>
  intro _ out ho hf;rw[Nat.sub_zero,List.drop_length]at hf;have hf':out=fin:=hf;subst hf'
  apply aV
  simp only[az.l1,Nat.sub_zero];refine dg (by omega) ?_
  apply aV
  simp only[az.j2];exact dg (by decide) hfin
 |succ m ih=>
  intro hm out ho hf
  have hj:x.f4.length-(m+1)<x.f4.length:=by omega
  have hrd:al x.f4 ((x.f4.length-(m+1):Nat):Int)=x.f4[x.f4.length-(m+1)]:=getD_at x.f4 _ _ hj;rw[List.drop_eq_getElem_cons hj,show x.f4.length-(m+1)+1=x.f4.length-m by omega]at hf
  apply aV
  simp only[az.l1];refine bo (by omega) (bo trivial ?_)
  apply aV
  simp only[az.j2,hrd];rw[nK _ x.f4.length hj (by omega),show x.f4.length-(m+1)+1=x.f4.length-m by omega];refine bo (by simp[hk]) (bo (by omega) (bo (by omega) (Ev.bind (pj l nx _ hl) ?_)))
  by_cases c:0≤cC x.f4[x.f4.length-(m+1)].f1 l 0
  ·have hx:eX l x.f4[x.f4.length-(m+1)].f1=true:=decide_eq_true c;have hlen:=ho.len;refine bo c (Ev.bind (abD out _ (by omega)) (ih (by omega) _ (ho.put _ hx) ?_));rw[←hf];simp only[oc,List.map_cons,List.foldl_cons,if_pos hx]
  ·have hx:¬eX l x.f4[x.f4.length-(m+1)].f1=true:=by unfold eX;simpa using c
   refine dg c (ih (by omega) _ ho ?_);rw[←hf];simp only[oc,List.map_cons,List.foldl_cons,if_neg hx]
theorem zc (l:List bf) (nx:Int) (xs:List Int) (i:Int) (x:bf) (ok:Bool) (R out:List Int) (hno:¬(ok=true∧x.f1=2)) (hfin:Ev (fun k=>az.l0 k xs out (wrap64 (i+1)) l nx) R):
  Ev (fun k=>az.l1 k xs out i ok 0 l nx x.f0 x.f1 x.f2 x.f3 x.f4 x.f5) R:=by
 apply aV
 simp only[az.l1];refine wX (fun _=>wX (fun hk=> ?_) (fun _=> ?_)) (fun _=> ?_)
 ·apply aV
  simp only[az.j2];exact dg (by have:x.f1≠2:=fun e=>hno ⟨hk,e⟩;simpa using this) hfin
 ·apply aV
  simp only[az.j2];exact dg (by decide) hfin
 ·apply aV
  simp only[az.j2];exact dg (by decide) hfin
theorem vQ (ex:Int→Bool) (out a b:List Int):oc ex out (a++b)=oc ex (oc ex out a) b:=List.foldl_append
theorem qk.add {l:List bf}{out:List Int}(h:qk l out) (es:List Int):qk l (oc (eX l) out es):=
 ⟨rE _ _ _ h.lt,fun x hx=>by rcases(vO (eX l) es out x).1 hx with hx|⟨_,hx⟩;exact h.ex x hx;exact hx⟩
theorem zd (l:List bf) (nx:Int) (xs:List Int) (hl:l.length≤1048576) (hs:∀x∈l,ia x) (hx:qk l xs):Ev (fun k=>az.f k l nx xs) (pB (eX l) (iY l) xs):=by
 have hlen:=hx.len
 have key:=down (n:=xs.length) (P:=fun i=>Ev (fun k=>az.l0 k xs (oc (eX l) xs ((xs.take i).flatMap (iY l))) (i:Nat) l nx) (pB (eX l) (iY l) xs)) (by
   apply aV
   simp only[az.l0,List.take_length]
   exact dg (by omega) (Ev.now _)) (fun i hi h=>by
   have hrd:=rdI xs i hi
   have hst:oc (eX l) xs ((xs.take (i+1)).flatMap (iY l))=oc (eX l) (oc (eX l) xs ((xs.take i).flatMap (iY l))) (iY l xs[i]):=by
    rw[List.take_succ_eq_append_getElem hi,List.flatMap_append,vQ];simp
   rw[hst]at h;have ho:=hx.add ((xs.take i).flatMap (iY l));generalize oc (eX l) xs ((xs.take i).flatMap (iY l))=out at h ho⊢
   apply aV
   simp only[az.l0,hrd];refine bo (by omega) (bo (by omega) (Ev.bind (qj l nx xs[i] hl hs) ?_));have hsm:=jl l xs[i] hs;rw[←nK i xs.length hi (by omega)]at h;dsimp only
   by_cases c:eX l xs[i]=true∧(fF l xs[i]).f1=2
   ·have hk:iY l xs[i]=(fF l xs[i]).f4.map (·.f1):=if_pos c;rw[hk]at h;have:=zb l nx xs i (fF l xs[i]) _ hl hsm.e c.2 _ h _ (Nat.le_refl _) out ho (by rw[Nat.sub_self,List.drop_zero]);rw[Nat.sub_self]at this;rw[c.1];exact this
   ·have hk:iY l xs[i]=[]:=if_neg c;rw[hk]at h
    exact zc l nx xs i (fF l xs[i]) _ _ out c h)
 simpa [az.f,oc]using key
theorem qk.next {l:List bf}{xs:List Int}(h:qk l xs):qk l (pB (eX l) (iY l) xs):=h.add _
theorem uE (l:List bf) (nx:Int) (hl:l.length≤1048576) (hs:∀x∈l,ia x):Ev (fun k=>eb.f k l nx) (if eX l 1=true then za (eX l) (iY l) l.length [1]else []):=by
 unfold eb.f;simp only[Option.bind_some];refine Ev.bind (pj l nx 1 hl) ?_
 by_cases c:cC 1 l 0<0
 ·have:¬eX l 1=true:=by unfold eX;simp;omega
  exact bo c (eW (Ev.now _) (by rw[if_neg this]))
 ·have h1:eX l 1=true:=decide_eq_true (by omega);rw[if_pos h1];refine dg c (bo (by simp) ?_)
  have key:∀(m:Nat),m≤l.length→∀xs,qk l xs→Ev (fun k=>eb.l0 k xs ((l.length-m:Nat):Int) l nx) (za (eX l) (iY l) m xs):=by
   intro m
   induction m with
   |zero=>
    intro _ xs _
    apply aV
    simp only[eb.l0];exact dg (by omega) (Ev.now _)
   |succ m ih=>
    intro hm xs hx
    apply aV
    simp only[eb.l0];refine bo (by omega) (Ev.bind (zd l nx xs hl hs hx) ?_);rw[nK _ l.length (by omega) (by omega),show l.length-(m+1)+1=l.length-m by omega];exact ih (by omega) _ hx.next
  have:=key l.length (Nat.le_refl _) [1] ⟨List.pairwise_singleton ..,fun x hx=>by rw[List.mem_singleton.1 hx];exact h1⟩;rw[Nat.sub_self]at this;exact this
end Go.Proofs.YtlecajlnjmbilaaGreatDoor.Q
namespace Go.Proofs.YtlecajlnjmbilaaGreatDoor.Q
open Go.RowKit Go.Proofs.YtlecajlnjmbilaaGreatDoor.P Go.Proofs.ab.aq Go.Proofs.ab.aH Go.Proofs.ab.aK
theorem vR (l:List bf) (nx:Int) (out:List Int) (e:List cz) (R:List Int) (he:e.length≤1048576):
  ∀(m:Nat),m≤e.length→∀q,q.length+m<17592186044416→Ev (fun k=>aX.l0 k out (q++(e.drop (e.length-m)).map (·.f1)) l nx) R→Ev (fun k=>aX.l1 k out q e (e.length:Int) ((e.length-m:Nat):Int) l nx) R:=by
 intro m
 induction m with
 |zero=>
  intro _ q _ h;rw[Nat.sub_zero,List.drop_length,List.map_nil,List.append_nil]at h
  apply aV
  simp only[aX.l1,Nat.sub_zero];exact dg (by omega) h
 |succ m ih=>
  intro hm q hq h
  have hj:e.length-(m+1)<e.length:=by omega
  have hrd:al e ((e.length-(m+1):Nat):Int)=e[e.length-(m+1)]:=getD_at e _ _ hj;rw[List.drop_eq_getElem_cons hj,show e.length-(m+1)+1=e.length-m by omega,List.map_cons]at h
  apply aV
  simp only[aX.l1,hrd];rw[nK _ e.length hj (by omega),show e.length-(m+1)+1=e.length-m by omega];refine bo (by omega) (bo (by omega) (bo (by omega) (bo (by omega) (ih (by omega) _ (by simp only[List.length_append,List.length_singleton];omega) ?_))));rw[List.append_assoc];exact h
structure sG (l:List bf) (out q:List Int):Prop where
 nd:out.Nodup
 ex:∀x∈out,eX l x=true
 sh:∀x∈out,∀y∈iY l x,eX l y=true→y∈out∨y∈q
 one:eX l 1=true→1∈out∨1∈q
 mi:∀K:List Int,vN (eX l) (iY l) K→(eX l 1=true→1∈K)→(∀x∈out,x∈K)∧∀y∈q,eX l y=true→y∈K
 ln:q.length≤1+out.length*1048576
theorem sG.len {l:List bf}{out q:List Int}(h:sG l out q):out.length≤l.length:=by
 have:=pk out (l.map (·.f0)) h.nd (fun x hx=>xx l x (h.ex x hx))
 rwa [List.length_map]at this
theorem ze (l:List bf) (n:Int) (hs:∀x∈l,ia x):(iY l n).length≤1048576:=by
 have h:=(jl l n hs).e;unfold iY
 split
 ·rwa [List.length_map]
 ·simp
theorem sG.old {l:List bf}{out q:List Int}{n:Int}(h:sG l out (n::q)) (ho:¬(eX l n=true∧n∉out)):sG l out q:=by
 have hn:eX l n=true→n∈out:=fun e=>Classical.byContradiction fun c=>ho ⟨e,c⟩
 refine⟨h.nd,h.ex,fun x hx y hy he=> ?_,fun e=> ?_,fun K hK h1=>⟨(h.mi K hK h1).1,fun y hy=>(h.mi K hK h1).2 y (List.mem_cons_of_mem _ hy)⟩,by have:=h.ln;simp only[List.length_cons]at this;omega⟩
 ·rcases h.sh x hx y hy he with a|a
  ·exact .inl a
  ·rcases List.mem_cons.1 a with rfl|a
   ·exact .inl (hn he)
   ·exact .inr a
 ·rcases h.one e with a|a
  ·exact .inl a
  ·rcases List.mem_cons.1 a with a|a
   ·exact .inl (a▸hn (a▸e))
   ·exact .inr a
theorem sG.new {l:List bf}{out q:List Int}{n:Int}(hs:∀x∈l,ia x) (h:sG l out (n::q)) (he:eX l n=true) (hn:n∉out):sG l (out++[n]) (q++iY l n):=by
 have hk:=ze l n hs;refine⟨?_,fun x hx=> ?_,fun x hx y hy hey=> ?_,fun e=> ?_,fun K hK h1=>⟨fun x hx=> ?_,fun y hy hey=> ?_⟩,?_⟩
 ·rw[List.nodup_append];exact⟨h.nd,by simp,fun a ha b hb=>by rw[List.mem_singleton.1 hb];exact fun e=>hn (e▸ha)⟩
 ·rcases List.mem_append.1 hx with hx|hx
  ·exact h.ex x hx
  ·rw[List.mem_singleton.1 hx];exact he
 ·rcases List.mem_append.1 hx with hx|hx
  ·rcases h.sh x hx y hy hey with a|a
   ·exact .inl (List.mem_append.2 (.inl a))
   ·rcases List.mem_cons.1 a with rfl|a
    ·exact .inl (List.mem_append.2 (.inr (List.mem_singleton.2 rfl)))
    ·exact .inr (List.mem_append.2 (.inl a))
  ·rw[List.mem_singleton.1 hx]at hy;exact .inr (List.mem_append.2 (.inr hy))
 ·rcases h.one e with a|a
  ·exact .inl (List.mem_append.2 (.inl a))
  ·rcases List.mem_cons.1 a with a|a
   ·exact .inl (List.mem_append.2 (.inr (List.mem_singleton.2 a)))
   ·exact .inr (List.mem_append.2 (.inl a))
 ·rcases List.mem_append.1 hx with hx|hx
  ·exact(h.mi K hK h1).1 x hx
  ·rw[List.mem_singleton.1 hx];exact(h.mi K hK h1).2 n (List.mem_cons_self ..) he
 ·rcases List.mem_append.1 hy with hy|hy
  ·exact(h.mi K hK h1).2 y (List.mem_cons_of_mem _ hy) hey
  ·exact hK n ((h.mi K hK h1).2 n (List.mem_cons_self ..) he) y hy hey
 ·have:=h.ln;simp only[List.length_append,List.length_cons,List.length_singleton,List.length_nil]at this⊢
  omega
theorem nz (l:List bf) (nx:Int) (hl:l.length≤1048576) (hs:∀x∈l,ia x) (out q:List Int) (n:Int) (R:List Int) (hi:sG l out (n::q))
  (hold:¬(eX l n=true∧n∉out)→Ev (fun k=>aX.l0 k out q l nx) R) (hnew:eX l n=true→n∉out→Ev (fun k=>aX.l0 k (out++[n]) (q++iY l n) l nx) R):Ev (fun k=>aX.l0 k out (n::q) l nx) R:=by
 have hlen:=hi.len;have hln:=hi.ln;simp only[List.length_cons]at hln;have hrd:rd (n::q) 0=n:=rfl;have hdr:(n::q).drop (1:Int).toNat=q:=rfl;have hsm:=jl l n hs
 apply aV
 simp only[aX.l0,hrd,hdr,Option.bind_some];refine bo (by simp only[List.length_cons];omega) (bo (by simp only[List.length_cons];omega) (bo (by simp only[List.length_cons];omega) (Ev.bind (ob l nx n hl hs) ?_)));dsimp only
 by_cases c:eX l n=true
 ·have hc:ef.f out n=some (out.contains n):=by unfold ef.f;rw[if_pos (by omega)]
  refine bo c ?_;simp only[hc,Option.bind_some]
  by_cases cc:n∈out
  ·have:out.contains n=true:=by simpa using cc
   rw[this]
   apply aV
   simp only[aX.j1];exact bo trivial (hold (fun h=>h.2 cc))
  ·have:out.contains n=false:=by simpa using cc
   rw[this];have h:=hnew c cc
   apply aV
   simp only[aX.j1,Option.bind_some];refine dg (by decide) (bo (by omega) ?_)
   by_cases hk:(fF l n).f1=2
   ·have e:iY l n=(fF l n).f4.map (·.f1):=if_pos ⟨c,hk⟩;rw[e]at h;refine bo hk ?_;have hln2:out.length*1048576≤1048576*1048576:=Nat.mul_le_mul_right _ (by omega);have he:=hsm.e;have:=vR l nx (out++[n]) (fF l n).f4 R hsm.e _ (Nat.le_refl _) q (by omega) (by rw[Nat.sub_self,List.drop_zero];exact h);rw[Nat.sub_self]at this;exact this
   ·have e:iY l n=[]:=if_neg (fun h=>hk h.2);rw[e,List.append_nil]at h;exact dg hk h
 ·refine dg c ?_
  apply aV
  simp only[aX.j1];exact bo trivial (hold (fun h=>c h.1))
theorem tc (l:List bf) (nx:Int) (hl:l.length≤1048576) (hs:∀x∈l,ia x):∀(d:Nat) (q out:List Int),l.length-out.length≤d→sG l out q→∃o,Ev (fun k=>aX.l0 k out q l nx) (om o)∧sG l o []:=by
 intro d
 induction d with
 |zero=>
  intro q
  induction q with
  |nil=>
   intro out _ h;refine⟨out,?_,h⟩;have:=h.len
   apply aV
   simp only[aX.l0];exact dg (by simp) (bo (by omega) (Ev.now _))
  |cons n q ihq=>
   intro out hd h
   by_cases c:eX l n=true∧n∉out
   ·have:=(h.new hs c.1 c.2).len;simp only[List.length_append,List.length_singleton]at this
    omega
   ·obtain⟨o,ho,hi⟩:=ihq out hd (h.old c);exact⟨o,nz l nx hl hs out q n _ h (fun _=>ho) (fun a b=>absurd ⟨a,b⟩ c),hi⟩
 |succ d ih=>
  intro q
  induction q with
  |nil=>
   intro out _ h;refine⟨out,?_,h⟩;have:=h.len
   apply aV
   simp only[aX.l0];exact dg (by simp) (bo (by omega) (Ev.now _))
  |cons n q ihq=>
   intro out hd h
   by_cases c:eX l n=true∧n∉out
   ·obtain⟨o,ho,hi⟩:=ih (q++iY l n) (out++[n]) (by simp only[List.length_append,List.length_singleton];omega) (h.new hs c.1 c.2);exact⟨o,nz l nx hl hs out q n _ h (fun a=>absurd c a) (fun _ _=>ho),hi⟩
   ·obtain⟨o,ho,hi⟩:=ihq out hd (h.old c);exact⟨o,nz l nx hl hs out q n _ h (fun _=>ho) (fun a b=>absurd ⟨a,b⟩ c),hi⟩
theorem uF (l:List bf) (nx:Int) (hl:l.length≤1048576) (hs:∀x∈l,ia x):Ev (fun k=>aX.f k l nx) (if eX l 1=true then za (eX l) (iY l) l.length [1]else []):=by
 obtain⟨o,ho,hi⟩:=tc l nx hl hs l.length [1] [] (by omega) ⟨List.nodup_nil,(fun x hx=>by cases hx),(fun x hx=>by cases hx),(fun _=> .inr (List.mem_singleton.2 rfl)),(fun K hK h1=>⟨(fun x hx=>by cases hx),(fun y hy he=>by rw[List.mem_singleton.1 hy]at he⊢;exact h1 he)⟩),by simp⟩;unfold aX.f;refine eW ho ?_
 by_cases c:eX l 1=true
 ·rw[if_pos c];have h1o:1∈o:=(hi.one c).resolve_right (by simp);have:=xv (eX l) (iY l) (l.map (·.f0)) o (fun y hy=>xx l y hy) c hi.nd (fun x hx y hy he=>(hi.sh x hx y hy he).resolve_right (by simp)) h1o (fun K hK h1=>(hi.mi K hK (fun _=>h1)).1);rw[List.length_map]at this;exact this
 ·rw[if_neg c];have:o=[]:=List.eq_nil_iff_forall_not_mem.2 (fun x hx=>by have:=(hi.mi [] (fun x hx=>by cases hx) (fun e=>absurd e c)).1 x hx;cases this);rw[this];exact List.eq_nil_of_length_eq_zero (by rw[ma];rfl)
end Go.Proofs.YtlecajlnjmbilaaGreatDoor.Q
namespace Go.Proofs.YtlecajlnjmbilaaGreatDoor.Q
open Go.RowKit Go.Proofs.YtlecajlnjmbilaaGreatDoor.P Go.Proofs.ab.aq Go.Proofs.ab.aH Go.Proofs.ab.aK
theorem sH (n:Int) (l:List bf) (h:∀x∈l,x.f4.length≤1048576):eQ n l≤l.length*1048576:=by
 induction l with
 |nil=>simp[eQ]
 |cons x m ih=>
  have e:hI n x≤1048576:=by
   have:=h x (List.mem_cons_self ..);unfold hI
   split
   ·have:=List.length_filter_le (fun y:cz=>decide (y.f1=n)) x.f4;unfold fQ;omega
   ·omega
  have:=ih (fun y hy=>h y (List.mem_cons_of_mem _ hy));simp only[eQ,List.map_cons,List.sum_cons,List.length_cons]at this⊢
  omega
def nA (l:List bf) (e:List cz):Bool:=e.all fun x=>eX l x.f1
def qW (l xs:List bf):Bool:=xs.all fun x=>decide (x.f2=(eQ x.f0 l:Int))&&nA l x.f4
def pP (l:List bf):List Int:=if eX l 1=true then za (eX l) (iY l) l.length [1]else []
def km (l:List bf) (nx:Int):Bool:=nq l nx&&(decide ((pP l).length=l.length)&&qW l l)
theorem sI (l:List bf) (i:Nat) (hi:i<l.length):qW l (l.drop i)=(decide (l[i].f2=(eQ l[i].f0 l:Int))&&nA l l[i].f4&&qW l (l.drop (i+1))):=by
 unfold qW;rw[List.drop_eq_getElem_cons hi,List.all_cons]
theorem qX (l:List bf) (e:List cz) (j:Nat) (hj:j<e.length):nA l (e.drop j)=(eX l e[j].f1&&nA l (e.drop (j+1))):=by
 unfold nA;rw[List.drop_eq_getElem_cons hj,List.all_cons]
theorem sJ (l:List bf) (nx i:Int) (x:bf) (Z:Bool) (hl:l.length≤1048576) (he:x.f4.length≤1048576) (hfin:Ev (fun k=>aJ.l0 k (wrap64 (i+1)) l nx) Z):
  Ev (fun k=>aJ.l1 k i 0 l nx x.f0 x.f1 x.f2 x.f3 x.f4 x.f5) (nA l x.f4&&Z):=by
 have key:=down (n:=x.f4.length) (P:=fun j=>Ev (fun k=>aJ.l1 k i (j:Nat) l nx x.f0 x.f1 x.f2 x.f3 x.f4 x.f5) (nA l (x.f4.drop j)&&Z)) (by
   apply aV
   simp only[aJ.l1,List.drop_length]
   exact dg (by omega) hfin) (fun j hj h=>by
   have hrd:al x.f4 (j:Int)=x.f4[j]:=getD_at x.f4 _ j hj
   apply aV
   simp only[aJ.l1,hrd];rw[nK j x.f4.length hj (by omega),qX l x.f4 j hj];refine bo (by omega) (bo (by omega) (Ev.bind (pj l nx _ hl) ?_))
   by_cases c:cC x.f4[j].f1 l 0<0
   ·refine bo c (eW (Ev.now _) ?_);unfold eX;rw[decide_eq_false (by omega)];rfl
   ·refine dg c (eW h ?_)
    unfold eX;rw[decide_eq_true (by omega)];rfl)
 simpa using key
theorem sK (l:List bf) (nx:Int) (hl:l.length≤1048576) (hs:∀x∈l,x.f4.length≤1048576):Ev (fun k=>aJ.l0 k 0 l nx) (qW l l):=by
 have key:=down (n:=l.length) (P:=fun i=>Ev (fun k=>aJ.l0 k (i:Nat) l nx) (qW l (l.drop i))) (by
   apply aV
   simp only[aJ.l0,List.drop_length]
   exact dg (by omega) (Ev.now _)) (fun i hi h=>by
   have hrd:af l (i:Int)=l[i]:=getD_at l _ i hi;have hx:=hs _ (List.getElem_mem hi);have hu:=sH l[i].f0 l hs;have hu2:l.length*1048576≤1048576*1048576:=Nat.mul_le_mul_right _ hl;rw[←nK i l.length hi (by omega)]at h
   apply aV
   simp only[aJ.l0,hrd];rw[sI l i hi];refine bo (by omega) (bo (by omega) (Ev.bind (xl l nx _ hl hs (by omega)) ?_))
   by_cases c:((eQ l[i].f0 l:Nat):Int)=l[i].f2
   ·refine bo c (eW (sJ l nx i l[i] _ hl hx h) ?_);rw[decide_eq_true c.symm,Bool.true_and]
   ·refine dg c (eW (Ev.now _) ?_)
    rw[decide_eq_false (fun e=>c e.symm)];rfl)
 simpa using key
theorem qY (l:List bf) (nx:Int) (hl:l.length≤1048576) (hs:∀x∈l,nZ x):Ev (fun k=>aJ.f k l nx) (km l nx):=by
 have hA:∀x∈l,ia x:=fun x hx=>⟨(hs x hx).d,(hs x hx).e,(hs x hx).t⟩
 unfold aJ.f km;refine Ev.bind (xj l nx hl hs) ?_
 by_cases c1:nq l nx=true
 ·refine bo c1 (Ev.bind (uE l nx hl hA) ?_);rw[c1,Bool.true_and]
  change Ev (fun k=>aJ.j0 k (((pP l).length:Int) !=(l.length:Int)) l nx) _
  apply aV
  simp only[aJ.j0]
  by_cases c2:(pP l).length=l.length
  ·refine dg (by simp[c2]) (eW (sK l nx hl (fun x hx=>(hs x hx).e)) ?_);rw[decide_eq_true c2,Bool.true_and]
  ·refine bo (by simp;omega) (eW (Ev.now _) ?_);rw[decide_eq_false c2];rfl
 ·refine dg c1 ?_
  apply aV
  simp only[aJ.j0];refine bo trivial (eW (Ev.now _) ?_);rw[show nq l nx=false by simpa using c1];rfl
theorem sL (l:List bf) (nx i:Int) (e:List cz) (Z:Bool) (hl:l.length≤1048576) (he:e.length≤1048576) (hfin:Ev (fun k=>bj.l0 k l (l.length:Int) (wrap64 (i+1)) l nx) Z):
  Ev (fun k=>bj.l1 k l (l.length:Int) i e (e.length:Int) 0 l nx) (nA l e&&Z):=by
 have key:=down (n:=e.length) (P:=fun j=>Ev (fun k=>bj.l1 k l (l.length:Int) i e (e.length:Int) (j:Nat) l nx) (nA l (e.drop j)&&Z)) (by
   apply aV
   simp only[bj.l1,List.drop_length]
   exact dg (by omega) hfin) (fun j hj h=>by
   have hrd:al e (j:Int)=e[j]:=getD_at e _ j hj
   apply aV
   simp only[bj.l1,hrd];rw[nK j e.length hj (by omega),qX l e j hj]
   have hp:Ev (fun k=>ez.f k l nx e[j].f1) (cC e[j].f1 l 0):=by unfold ez.f;exact bo (by omega) (Ev.now _)
   refine bo (by omega) (bo (by omega) (bo (by omega) (Ev.bind hp ?_)))
   by_cases c:cC e[j].f1 l 0<0
   ·refine bo c (eW (Ev.now _) ?_);unfold eX;rw[decide_eq_false (by omega)];rfl
   ·refine dg c (eW h ?_)
    unfold eX;rw[decide_eq_true (by omega)];rfl)
 simpa using key
theorem sM (l:List bf) (nx:Int) (hl:l.length≤1048576) (hs:∀x∈l,x.f4.length≤1048576):Ev (fun k=>bj.l0 k l (l.length:Int) 0 l nx) (qW l l):=by
 have key:=down (n:=l.length) (P:=fun i=>Ev (fun k=>bj.l0 k l (l.length:Int) (i:Nat) l nx) (qW l (l.drop i))) (by
   apply aV
   simp only[bj.l0,List.drop_length]
   exact dg (by omega) (Ev.now _)) (fun i hi h=>by
   have hrd:af l (i:Int)=l[i]:=getD_at l _ i hi;have hx:=hs _ (List.getElem_mem hi);have hu:=sH l[i].f0 l hs;have hu2:l.length*1048576≤1048576*1048576:=Nat.mul_le_mul_right _ hl;rw[←nK i l.length hi (by omega)]at h
   apply aV
   simp only[bj.l0,hrd];rw[sI l i hi];refine bo (by omega) (bo (by omega) (bo (by omega) (Ev.bind (xm l nx _ hl hs (by omega)) ?_)))
   by_cases c:l[i].f2=((eQ l[i].f0 l:Nat):Int)
   ·refine bo c (eW (sL l nx i l[i].f4 _ hl hx h) ?_);rw[decide_eq_true c,Bool.true_and]
   ·refine dg c (eW (Ev.now _) ?_)
    rw[decide_eq_false c];rfl)
 simpa using key
theorem vS (l:List bf) (nx:Int) (hl:l.length≤1048576) (hs:∀x∈l,nZ x):Ev (fun k=>bj.f k l nx) (km l nx):=by
 have hA:∀x∈l,ia x:=fun x hx=>⟨(hs x hx).d,(hs x hx).e,(hs x hx).t⟩
 unfold bj.f km;refine Ev.bind (xk l nx hl hs) ?_
 by_cases c1:nq l nx=true
 ·refine bo c1 (Ev.bind (uF l nx hl hA) ?_);rw[c1,Bool.true_and]
  change Ev (fun k=>bj.j0 k (((pP l).length:Int) !=(l.length:Int)) l nx) _
  apply aV
  simp only[bj.j0]
  by_cases c2:(pP l).length=l.length
  ·refine dg (by simp[c2]) (eW (sM l nx hl (fun x hx=>(hs x hx).e)) ?_);rw[decide_eq_true c2,Bool.true_and]
  ·refine bo (by simp;omega) (eW (Ev.now _) ?_);rw[decide_eq_false c2];rfl
 ·refine dg c1 ?_
  apply aV
  simp only[bj.j0];refine bo trivial (eW (Ev.now _) ?_);rw[show nq l nx=false by simpa using c1];rfl
end Go.Proofs.YtlecajlnjmbilaaGreatDoor.Q
namespace Go.Proofs.YtlecajlnjmbilaaGreatDoor.Q
open Go.RowKit Go.Proofs.YtlecajlnjmbilaaGreatDoor.P Go.Proofs.ab.aq Go.Proofs.ab.aH Go.Proofs.ab.aK
theorem nB (l:List bf) (nx:Int) (hl:l.length≤1048576) (hs:∀x∈l,ia x):Ev (fun k=>cv.f k l nx) (l,nx):=by
 have key:=down (n:=l.length) (P:=fun i=>Ev (fun k=>cv.l0 k l (l.length:Int) (i:Nat) (l.take i) nx) (l,nx)) (by
   apply aV
   simp only[cv.l0,List.take_length]
   exact dg (by omega) (Ev.now _)) (fun i hi h=>by
   have hrd:af l (i:Int)=l[i]:=getD_at l _ i hi
   apply aV
   simp only[cv.l0,hrd,su l[i] (hs _ (List.getElem_mem hi)),Option.bind_some];rw[nK i l.length hi (by omega)];refine bo (by omega) (bo (by omega) (bo (by omega) (bo (by rw[List.length_take];omega) ?_)));rw[List.take_succ_eq_append_getElem hi]at h
   exact h)
 simpa [cv.f]using key
end Go.Proofs.YtlecajlnjmbilaaGreatDoor.Q
namespace Go.Proofs.YtlecajlnjmbilaaGreatDoor.Q
open Go.RowKit Go.Proofs.YtlecajlnjmbilaaGreatDoor.P Go.Proofs.ab.aq Go.Proofs.ab.aH Go.Proofs.ab.aK
theorem kG (l:List bf) (nx:Int) (hl:l.length≤1048576) (hs:∀x∈l,ia x):Ev (fun k=>cr.f k l nx) (l,nx):=by
 have key:=down (n:=l.length) (P:=fun i=>Ev (fun k=>cr.l0 k (i:Nat) l nx (l.take i) nx) (l,nx)) (by
   apply aV
   simp only[cr.l0,List.take_length]
   exact dg (by omega) (Ev.now _)) (fun i hi h=>by
   have hrd:af l (i:Int)=l[i]:=getD_at l _ i hi
   apply aV
   simp only[cr.l0,hrd,qi l[i] (hs _ (List.getElem_mem hi)),Option.bind_some];rw[nK i l.length hi (by omega)];refine bo (by omega) (bo (by omega) (bo (by rw[List.length_take];omega) ?_));rw[List.take_succ_eq_append_getElem hi]at h
   exact h)
 simpa [cr.f]using key
def lN (ino:Int):List bf→Nat
 |[]=>0
 |y::l=>if y.f0<ino then lN ino l+1 else 0
theorem xy (ino:Int) (l:List bf):∀j:Nat,cC ino l j<0→∀y∈l,y.f0≠ino:=by
 induction l with
 |nil=>intro j _ y hy;cases hy
 |cons x l ih=>
  intro j h y hy;rw[cC]at h
  split at h
  ·omega
  ·rcases List.mem_cons.1 hy with rfl|hy
   ·assumption
   ·exact ih _ h y hy
theorem abE (ino:Int) (l:List bf):(∀y∈l,y.f0≠ino)→∀j:Nat,(vu ino l j= -1∧lN ino l=l.length)∨(vu ino l j=((j+lN ino l:Nat):Int)∧lN ino l<l.length):=by
 induction l with
 |nil=>intro _ j;exact .inl ⟨rfl,rfl⟩
 |cons x l ih=>
  intro h j;have hx:=h x (List.mem_cons_self ..);rw[vu,lN]
  by_cases c:ino<x.f0
  ·rw[if_pos c,if_neg (by omega)];exact .inr ⟨by simp,by simp⟩
  ·rw[if_neg c,if_pos (by omega)];rcases ih (fun y hy=>h y (List.mem_cons_of_mem _ hy)) (j+1)with⟨h1,h2⟩|⟨h1,h2⟩
   ·exact .inl ⟨h1,by rw[h2];rfl⟩
   ·exact .inr ⟨by rw[h1];congr 1;omega,by simp only[List.length_cons];omega⟩
theorem abF (ino:Int) (l:List bf) (h:cC ino l 0<0):gtP ino l=lN ino l:=by
 unfold gtP;rcases abE ino l (xy ino l 0 h) 0 with⟨h1,h2⟩|⟨h1,h2⟩
 ·rw[h1,if_pos (by omega),h2]
 ·rw[h1,if_neg (by omega)];omega
theorem abG (ino:Int) (l:List bf):lN ino l≤l.length:=by
 induction l with
 |nil=>exact Nat.le_refl _
 |cons x l ih=>rw[lN,List.length_cons];split<;>omega
theorem nt (x:bf) (l:List bf):(lh x l).length≤l.length+1:=by
 unfold lh
 split
 ·rw[List.length_set];omega
 ·simp only[List.length_append,List.length_take,List.length_drop,List.length_singleton];omega
theorem ql (x y:bf) (l:List bf) (h:y∈lh x l):y=x∨y∈l:=by
 unfold lh at h
 split at h
 ·rcases List.mem_or_eq_of_mem_set h with h|h
  ·exact .inr h
  ·exact .inl h
 ·rcases List.mem_append.1 h with h|h
  ·rcases List.mem_append.1 h with h|h
   ·exact .inr (List.mem_of_mem_take h)
   ·exact .inl (by simpa using h)
  ·exact .inr (List.mem_of_mem_drop h)
theorem nJ (a b:List bf):cX (a++b)=cX a+cX b:=by unfold cX;rw[List.map_append,List.sum_append]
theorem sN (x:bf) (l:List bf):cX (lh x l)≤cX l+na x:=by
 unfold lh
 split
 ·generalize (cC x.f0 l 0).toNat=i;rw[List.set_eq_take_append_cons_drop]
  split
  ·have h:cX l=cX (l.take i)+cX (l.drop i):=by rw[←nJ,List.take_append_drop]
   have h2:cX (l.drop (i+1))≤cX (l.drop i):=by
    rcases Nat.lt_or_ge i l.length with hi|hi
    ·rw[List.drop_eq_getElem_cons hi];unfold cX;rw[List.map_cons,List.sum_cons];omega
    ·rw[List.drop_of_length_le hi,List.drop_of_length_le (by omega)];exact Nat.le_refl _
   have h3:cX (x::l.drop (i+1))=na x+cX (l.drop (i+1)):=by unfold cX;simp
   rw[nJ,h3]
   omega
  ·omega
 ·generalize gtP x.f0 l=i
  have h:cX l=cX (l.take i)+cX (l.drop i):=by rw[←nJ,List.take_append_drop]
  rw[nJ,nJ]
  have:cX [x]=na x:=by unfold cX;simp
  omega
theorem vT (l:List bf) (nx:Int) (x:bf) (hl:l.length≤1048576) (hs:∀x∈l,ia x) (hx:ia x):Ev (fun k=>gl.f k l nx x.f0 x.f1 x.f2 x.f3 x.f4 x.f5) (lh x l,nx):=by
 unfold gl.f;refine Ev.bind (nB l nx hl hs) ?_;simp only[su x hx,Option.bind_some];exact bo (by omega) (Ev.now _)
theorem vU (l:List bf) (nx:Int) (x:bf) (hl:l.length≤1048576) (hs:∀x∈l,ia x) (hx:ia x):Ev (fun k=>ba.f k l nx x.f0 x.f1 x.f2 x.f3 x.f4 x.f5) (lh x l,nx):=by
 have hr:=kT x.f0 l 0;unfold ba.f;refine Ev.bind (kG l nx hl hs) (Ev.bind (pj l nx x.f0 hl) ?_)
 by_cases c:0≤cC x.f0 l 0
 ·simp only[qi x hx,Option.bind_some];refine bo c (bo c (bo (by omega) (eW (Ev.now _) ?_)));unfold lh;rw[if_pos c]
 ·refine dg c ?_
  have hp:lh x l=l.take (lN x.f0 l)++[x]++l.drop (lN x.f0 l):=by
   unfold lh;rw[if_neg c,abF _ _ (by omega)]
  rw[hp];have hle:=abG x.f0 l
  have key:=down (n:=l.length) (P:=fun i=>i+lN x.f0 (l.drop i)=lN x.f0 l→Ev (fun k=>ba.l0 k (i:Nat) l nx x.f0 x.f1 x.f2 x.f3 x.f4 x.f5 l nx) (l.take (lN x.f0 l)++[x]++l.drop (lN x.f0 l),nx)) (fun hi=>by
    rw[List.drop_length]at hi
    have hi':l.length=lN x.f0 l:=by rw[←hi];rfl
    apply aV
    simp only[ba.l0,qi x hx,Option.bind_some,Int.toNat_natCast,List.nil_append,List.length_nil];refine dg (by omega) (bo (by omega) (bo (by omega) (bo (by rw[List.length_take];omega) (bo (by rw[List.length_take];omega) (bo (by simp only[List.length_append,List.length_take,List.length_drop,List.length_singleton];omega) (eW (Ev.now _) ?_))))))
    rw[←hi']) (fun i hi h hd=>by
    have hrd:af l (i:Int)=l[i]:=getD_at l _ i hi;rw[List.drop_eq_getElem_cons hi,lN]at hd
    apply aV
    simp only[ba.l0,hrd,qi x hx,Option.bind_some,Int.toNat_natCast,List.nil_append,List.length_nil];rw[nK i l.length hi (by omega)];refine bo (by omega) (bo (by omega) ?_)
    by_cases cc:l[i].f0<x.f0
    ·rw[if_pos cc]at hd;exact bo cc (h (by omega))
    ·rw[if_neg cc]at hd;refine dg cc (bo (by omega) (bo (by rw[List.length_take];omega) (bo (by rw[List.length_take];omega) (bo (by simp only[List.length_append,List.length_take,List.length_drop,List.length_singleton];omega) (eW (Ev.now _) ?_)))))
     rw[show i=lN x.f0 l by omega])
  exact key (by simp)
end Go.Proofs.YtlecajlnjmbilaaGreatDoor.Q
namespace Go.Proofs.YtlecajlnjmbilaaGreatDoor.Q
open Go.RowKit Go.Proofs.YtlecajlnjmbilaaGreatDoor.P Go.Proofs.ab.aq Go.Proofs.ab.aH Go.Proofs.ab.aK
end Go.Proofs.YtlecajlnjmbilaaGreatDoor.Q
namespace Go.Proofs.YtlecajlnjmbilaaGreatDoor.Q
open Go.RowKit Go.Proofs.YtlecajlnjmbilaaGreatDoor.P Go.Proofs.ab.aq Go.Proofs.ab.aH Go.Proofs.ab.aK
theorem sO (l:List ByteArray) (h:l≠[]):(⟨#[47]⟩++oN l:ByteArray)=oZ l:=by
 induction l with
 |nil=>exact absurd rfl h
 |cons x l ih=>
  cases l with
  |nil=>
   simp only[oZ,xZ]
   congr 1
   simp[oN,Lib.join]
  |cons y l=>
   have:=ih (by simp);rw[oZ,←this]
   apply ByteArray.ext
   simp[oN,Lib.join,ByteArray.data_append]
theorem zf (l:List ByteArray) (hl:l.length≤1048576) (hz:jm l≤1048576):Ev (fun k=>fJ.f k l) (if ft l=true then⟨#[47]⟩++oN l else⟨#[]⟩):=by
 have hs:∀x∈l,x.size≤1048576:=fun x hx=>Nat.le_trans (tA l x hx) hz
 have hj:(oN l).size≤3000000:=by
  cases l with
  |nil=>decide
  |cons x l=>
   have h1:=sO (x::l) (by simp);have h2:=sB (x::l);rw[←h1,ByteArray.size_append]at h2
   omega
 have hn:Ev (fun k=>fh.f k l) (ft l):=by
  unfold fh.f ft
  by_cases c:l.length≤30
  ·obtain⟨r,h1,h2⟩:=xY l hs 0;refine bo c (Ev.bind h1 (eW (Ev.now _) ?_));rw[h2];simp[c]
  ·exact dg c (eW (Ev.now _) (by simp[c]))
 unfold fJ.f;refine Ev.bind hn ?_
 by_cases c:ft l=true
 ·exact bo c (bo ⟨by omega,by omega⟩ (eW (Ev.now _) (by rw[if_pos c])))
 ·exact dg c (eW (Ev.now _) (by rw[if_neg c]))
theorem zg (l:List ByteArray) (hl:l.length≤1048576) (hz:jm l≤1048576):Ev (fun k=>cN.f k l) (if l.length=0 then⟨#[47]⟩else if ft l=true then oZ l else⟨#[]⟩):=by
 have hs:∀x∈l,x.size≤1048576:=fun x hx=>Nat.le_trans (tA l x hx) hz
 unfold cN.f
 by_cases c0:l.length=0
 ·exact bo (by omega) (eW (Ev.now _) (by rw[if_pos c0]))
 ·refine dg (by omega) ?_;rw[if_neg c0]
  by_cases c:l.length≤30
  ·have key:=aee (n:=l.length) (P:=fun i=>∀acc:ByteArray,acc.size+(l.length-i)+jm (l.drop i)≤3000000→Ev (fun k=>cN.l0 k l acc (i:Nat)) (if(l.drop i).all gh=true then acc++oZ (l.drop i)else⟨#[]⟩)) (by
     intro acc _
     apply aV
     simp only[cN.l0];refine dg (by omega) (eW (Ev.now _) ?_);rw[List.drop_length]
     simp[oZ,xZ]) (by
     intro i hi ih acc hb;have hd:=xp l i hi;have hx:=mj l[i] (by have:=hs l[i] (List.getElem_mem hi);omega)
     have h1:(acc++(⟨#[47]⟩:ByteArray)).size=acc.size+1:=by rw[ByteArray.size_append];rfl
     have ih:=ih ((acc++(⟨#[47]⟩:ByteArray))++l[i]) (by rw[ByteArray.size_append,h1];omega)
     apply aV
     simp only[cN.l0,rdS l i hi];rw[adB i l.length hi (by omega),List.drop_eq_getElem_cons hi,List.all_cons,oZ];refine bo (by omega) (bo (by omega) (Ev.bind hx ?_))
     by_cases cn:gh l[i]=true
     ·refine bo cn (dg (by omega) (bo (by omega) (bo (by rw[h1];omega) (eW ih ?_))));rw[cn,Bool.true_and]
      split
      ·simp only[ByteArray.append_assoc]
      ·rfl
     ·exact dg cn (eW (Ev.now _) (by simp[cn])))
   refine eW (key ⟨#[]⟩ (by simp only[List.drop_zero];have:(⟨#[]⟩:ByteArray).size=0:=rfl;omega)) ?_;simp only[List.drop_zero,acp,ft,c,decide_true,Bool.and_true]
  ·have hi:0<l.length:=by omega
   have hx:=mj l[0] (by have:=hs l[0] (List.getElem_mem hi);omega);have hr:iZ ByteArray.empty l (0:Int)=l[0]:=rdS l 0 hi
   apply aV
   simp only[cN.l0,hr];refine bo (by omega) (bo (by omega) (Ev.bind hx ?_))
   have hgp:ft l=false:=by simp[ft,c]
   rw[hgp]
   by_cases cn:gh l[0]=true
   ·exact bo cn (bo (by omega) (Ev.now _))
   ·exact dg cn (Ev.now _)
end Go.Proofs.YtlecajlnjmbilaaGreatDoor.Q
namespace Go.Proofs.YtlecajlnjmbilaaGreatDoor.Q
open Go.RowKit Go.Proofs.YtlecajlnjmbilaaGreatDoor.P Go.Proofs.ab.aq Go.Proofs.ab.aH Go.Proofs.ab.aK
theorem xz (l:List ByteArray) (hl:l.length≤1048576) (hz:jm l≤1048576):Ev (fun k=>fJ.f k l) (sD l):=by
 refine eW (zf l hl hz) ?_;unfold sD
 by_cases c:l.length=0
 ·obtain rfl:=List.eq_nil_of_length_eq_zero c
  rfl
 ·rw[if_neg c]
  split
  ·rw[sO l (fun h=>c (by rw[h];rfl))]
  ·rfl
end Go.Proofs.YtlecajlnjmbilaaGreatDoor.Q
namespace Go.Proofs.YtlecajlnjmbilaaGreatDoor.Q
open Go.RowKit Go.Proofs.YtlecajlnjmbilaaGreatDoor.P Go.Proofs.ab.aq Go.Proofs.ab.aH Go.Proofs.ab.aK
def eN (s:ByteArray):ByteArray×ByteArray×Bool:=
 if(fu s).2=true then(if(fu s).1.length=0 then(⟨#[]⟩,⟨#[]⟩,false)else(sD ((fu s).1.take ((fu s).1.length-1)),(fu s).1.getD ((fu s).1.length-1) ⟨#[]⟩,true))else(⟨#[]⟩,⟨#[]⟩,false)
theorem vV (s:ByteArray) (hs:s.size≤1048576):Ev (fun k=>dj.f k s) (eN s):=by
 unfold dj.f eN;refine Ev.bind (pO s hs) ?_;obtain⟨h1,h2⟩:=nr s;generalize fu s=p at*;refine yI (fun c=> ?_) (fun _=>Ev.now _)
 by_cases c0:p.1.length=0
 ·exact bo (by omega) (eW (Ev.now _) (by rw[if_pos c0]))
 ·have ht:=sC p.1 (p.1.length-1)
  have hw:wrap64 ((p.1.length:Int)-1)=((p.1.length-1:Nat):Int):=by rw[lr (by omega) (by omega)];omega
  simp only[hw,Int.toNat_natCast];refine dg (by omega) (bo (by omega) (bo (by omega) (Ev.bind (xz _ (by rw[List.length_take];omega) (by omega)) (bo (by omega) (eW (Ev.now _) ?_)))));rw[if_neg c0]
  rfl
theorem vW (s:ByteArray) (hs:s.size≤1048576):Ev (fun k=>eR.f k s) (eN s):=by
 unfold eR.f eN;refine Ev.bind (sA s hs) ?_;obtain⟨h1,h2⟩:=nr s;generalize fu s=p at*;refine yI (fun c=> ?_) (fun _=>Ev.now _)
 by_cases c0:p.1.length=0
 ·exact bo (by omega) (eW (Ev.now _) (by rw[if_pos c0]))
 ·have ht:=sC p.1 (p.1.length-1)
  have hw:wrap64 ((p.1.length:Int)-1)=((p.1.length-1:Nat):Int):=by rw[lr (by omega) (by omega)];omega
  simp only[hw,Int.toNat_natCast];refine dg (by omega) (bo (by omega) (bo (by omega) (Ev.bind (zg _ (by rw[List.length_take];omega) (by omega)) (bo (by omega) (eW (Ev.now _) ?_)))));rw[if_neg c0]
  rfl
end Go.Proofs.YtlecajlnjmbilaaGreatDoor.Q
namespace Go.Proofs.YtlecajlnjmbilaaGreatDoor.Q
open Go.RowKit Go.Proofs.YtlecajlnjmbilaaGreatDoor.P Go.Proofs.ab.aq Go.Proofs.ab.aH Go.Proofs.ab.aK
theorem nZ.a {x:bf}(h:nZ x):ia x:=⟨h.d,h.e,h.t⟩
def kR (T:List bf) (nx:Int) (ps:List ByteArray):Bool:=ps.all (fun p=>(fu p).2)&&km T nx
theorem vX (T:List bf) (nx:Int) (ps:List ByteArray) (hT:T.length≤1048576) (hs:∀x∈T,nZ x) (hp:∀p∈ps,p.size≤1048576) (hn:ps.length≤1048576):Ev (fun k=>eV.f k T nx ps) (kR T nx ps):=by
 have key:=down (n:=ps.length) (P:=fun i=>Ev (fun k=>eV.l0 k ps (ps.length:Int) (i:Nat) T nx) ((ps.drop i).all (fun p=>(fu p).2)&&km T nx)) (by
   apply aV
   simp only[eV.l0,List.drop_length]
   exact dg (by omega) (Ev.bind (vS T nx hT hs) (eW (Ev.now _) (by simp)))) (fun i hi h=>by
   have hrd:iZ ByteArray.empty ps (i:Int)=ps[i]:=getD_at ps _ i hi
   apply aV
   simp only[eV.l0,hrd];rw[nK i ps.length hi (by omega),List.drop_eq_getElem_cons hi,List.all_cons];refine bo (by omega) (bo (by omega) (bo (by omega) (Ev.bind (pO _ (hp _ (List.getElem_mem hi))) ?_)))
   by_cases c:(fu ps[i]).2=true
   ·exact bo c (eW h (by rw[c,Bool.true_and]))
   ·exact dg c (eW (Ev.now _) (by rw[show(fu ps[i]).2=false by simpa using c];rfl)))
 simpa [eV.f,kR]using key
def ff (T:List bf) (p:ByteArray):bf×ByteArray×Int:=
 let q:=eN p
 let s:=im T q.1
 if s.2=0 then(if s.1.f1=2 then(s.1,q.2.1,0)else(my,⟨#[]⟩,3))else(my,⟨#[]⟩,s.2)
theorem adC (l:List ByteArray) (h:ft l=true):jm l≤420∧l.length≤30:=by
 unfold ft at h;simp only[Bool.and_eq_true,decide_eq_true_eq,List.all_eq_true]at h;obtain⟨h1,h2⟩:=h
 have key:∀m:List ByteArray,(∀x∈m,gh x=true)→jm m≤14*m.length:=by
  intro m
  induction m with
  |nil=>intro _;simp[jm]
  |cons x m ih=>
   intro hm;have:=(acq x (hm x (List.mem_cons_self ..))).2.2;have:=ih (fun y hy=>hm y (List.mem_cons_of_mem _ hy));simp only[jm,List.map_cons,List.sum_cons,List.length_cons]at this⊢
   omega
 have:=key l h1
 omega
theorem vY (l:List ByteArray):(sD l).size≤1048576:=by
 by_cases c:ft l=true
 ·rw[xt l c];have:=adC l c;omega
 ·unfold sD;split
  ·decide
  ·decide
theorem qm (p:ByteArray):(eN p).1.size≤1048576:=by
 unfold eN
 split
 ·split
  ·decide
  ·exact vY _
 ·decide
def yc (s:bf×ByteArray×Int):Int×Int×Int×List Int×List cz×List ei×ByteArray×Int:=(s.1.f0,s.1.f1,s.1.f2,s.1.f3,s.1.f4,s.1.f5,s.2.1,s.2.2)
theorem zh (T:List bf) (nx:Int) (p:ByteArray) (hT:T.length≤1048576) (hs:∀x∈T,ia x) (hp:p.size≤1048576):Ev (fun k=>iP.f k T nx p) (yc (ff T p)):=by
 unfold iP.f;refine Ev.bind (vV p hp) (Ev.bind (yX T nx _ hT hs (qm p)) ?_);simp only[ff,tup]
 by_cases c1:(im T (eN p).1).2=0
 ·refine bo c1 ?_;rw[if_pos c1]
  by_cases c2:(im T (eN p).1).1.f1=2
  ·exact bo c2 (eW (Ev.now _) (by rw[if_pos c2];rfl))
  ·exact dg c2 (eW (Ev.now _) (by rw[if_neg c2];rfl))
 ·exact dg c1 (eW (Ev.now _) (by rw[if_neg c1];rfl))
theorem oO (T:List bf) (p:ByteArray) (hs:∀x∈T,ia x):ia (ff T p).1:=by
 have h0:ia my:=⟨by decide,by decide,by decide⟩;unfold ff;dsimp only
 split
 ·split
  ·exact qV T _ hs
  ·exact h0
 ·exact h0
theorem zj (T:List bf) (p:ByteArray):(im T p).1=my∨(im T p).1∈T:=by
 unfold im
 split
 ·split
  ·right
   rename_i h1 h2
   show fF T (lv T p).1∈T
   unfold fF;unfold eX at h2;have h2:=of_decide_eq_true h2;rw[if_neg (by omega)];rcases kT (lv T p).1 T 0 with h|h
   ·omega
   ·obtain⟨n,hn⟩:∃n:Nat,cC (lv T p).1 T 0=n:=⟨(cC (lv T p).1 T 0).toNat,by omega⟩;rw[hn]at h⊢;have hrd:af T (n:Int)=T[n]'(by omega):=getD_at T _ n (by omega);rw[hrd];exact List.getElem_mem _
  ·exact .inl rfl
 ·exact .inl rfl
def nI (nm:ByteArray) (ino:Int) (l:List cz):List cz:=l.take (nW nm l)++[⟨nm,ino⟩]++l.drop (nW nm l)
theorem yd (nm:ByteArray) (l:List cz):nW nm l≤l.length:=by
 unfold nW;rcases vy nm l 0 with h|⟨i,h,hi⟩
 ·rw[h];simp
 ·rw[h];split<;>omega
theorem nj (nm:ByteArray) (ino:Int) (l:List cz):(nI nm ino l).length=l.length+1:=by
 have:=yd nm l;simp only[nI,List.length_append,List.length_take,List.length_drop,List.length_singleton]
 omega
def oU (x:bf) (e:List cz):bf:=⟨x.f0,x.f1,x.f2,x.f3,e,x.f5⟩
theorem xA (x:bf) (nm:ByteArray) (T:List bf) (nx ino:Int) (hT:T.length≤1048576) (hs:∀x∈T,ia x) (hx:ia x) (he:x.f4.length<1048576):
  Ev (fun k=>gx.f k x.f0 x.f1 x.f2 x.f3 x.f4 x.f5 nm T nx ino) (lh (oU x (nI nm ino x.f4)) T,nx):=by
 have b:cG.f x.f4=some x.f4:=by unfold cG.f;have:=hx.e;simp;omega
 unfold gx.f;simp only[b,Option.bind_some];refine bo ⟨yd _ _,by omega,by omega⟩ ?_;exact vT T nx (oU x (nI nm ino x.f4)) hT hs ⟨hx.d,by show(nI nm ino x.f4).length≤1048576;rw[nj];omega,hx.t⟩
def lX (T:List bf) (nx:Int) (p:ByteArray) (kind:Int):List bf×Int×Int:=
 if kR T nx [p]=true∧p.toList≠([47]:List UInt8)then
  (if(ff T p).2.2=0 then
   (if lL (ff T p).2.1 (ff T p).1.f4=0 then
    (if(ff T p).1.f4.length=10∨T.length=30∨nx=1000 then(T,nx,5)
     else(lh ⟨nx,kind,1,[],[],[]⟩ (lh (oU (ff T p).1 (nI (ff T p).2.1 nx (ff T p).1.f4)) T),nx+1,0))
    else(T,nx,4))
   else(T,nx,(ff T p).2.2))
 else(T,nx,1)
theorem zk (T:List bf) (nx:Int) (p:ByteArray) (kind:Int) (hT:T.length<1048576) (hs:∀x∈T,nZ x) (hp:p.size≤1048576) (he:∀x∈T,x.f4.length<1048576) (hn: -1048576≤nx∧nx≤1048576):Ev (fun k=>bq.f k T nx p kind) (lX T nx p kind):=by
 have hA:∀x∈T,ia x:=fun x hx=>(hs x hx).a
 unfold bq.f;refine Ev.bind (nB T nx (by omega) hA) (Ev.bind (vX T nx [p] (by omega) hs (fun q hq=>by rw[List.mem_singleton.1 hq];exact hp) (by simp)) ?_);unfold lX
 have one:∀b:Bool,b=true→Ev (fun k=>bq.j0 k p kind b T nx) (T,nx,1):=by
  rintro _ rfl
  apply aV
  simp only[bq.j0];exact bo trivial (Ev.now _)
 by_cases c1:kR T nx [p]=true
 ·refine bo c1 ?_
  by_cases c2:p.toList=([47]:List UInt8)
  ·rw[if_neg (fun h=>h.2 c2)];exact one _ (by simpa using c2)
  ·rw[if_pos ⟨c1,c2⟩];have hsm:=oO T p hA
   have hse:(ff T p).1.f4.length<1048576:=by
    unfold ff;dsimp only
    split
    ·split
     ·rcases zj T (eN p).1 with h|h
      ·rw[h];decide
      ·exact he _ h
     ·show my.f4.length<1048576;decide
    ·show my.f4.length<1048576;decide
   apply aV
   simp only[bq.j0];refine dg (by simpa using c2) (Ev.bind (zh T nx p (by omega) hA hp) ?_);simp only[yc];generalize ff T p=s at*
   by_cases c3:s.2.2=0
   ·refine bo c3 ?_;rw[if_pos c3];refine Ev.bind (sx s.1.f0 s.1.f1 s.1.f2 s.1.f3 s.1.f4 s.1.f5 s.2.1 (by omega)) ?_
    by_cases c4:lL s.2.1 s.1.f4=0
    ·refine bo c4 ?_;rw[if_pos c4]
     have full:∀b:Bool,b=true→Ev (fun k=>bq.j1 k kind b T nx s.1.f0 s.1.f1 s.1.f2 s.1.f3 s.1.f4 s.1.f5 s.2.1) (T,nx,5):=by
      rintro _ rfl
      apply aV
      simp only[bq.j1];exact bo trivial (Ev.now _)
     have hw:wrap64 (nx+1)=nx+1:=lr (by omega) (by omega)
     have go:¬nx=1000→Ev (fun k=>bq.j1 k kind (nx==1000) T nx s.1.f0 s.1.f1 s.1.f2 s.1.f3 s.1.f4 s.1.f5 s.2.1) (lh ⟨nx,kind,1,[],[],[]⟩ (lh (oU s.1 (nI s.2.1 nx s.1.f4)) T),nx+1,0):=by
      intro c7
      apply aV
      simp only[bq.j1,hw];refine dg (by simpa using c7) (Ev.bind (xA s.1 s.2.1 T (nx+1) nx (by omega) hA hsm hse) ?_);have hl:=nt (oU s.1 (nI s.2.1 nx s.1.f4)) T;refine Ev.bind (vT (lh (oU s.1 (nI s.2.1 nx s.1.f4)) T) (nx+1) ⟨nx,kind,1,[],[],[]⟩ (by omega) (fun x hx=> ?_) ⟨Nat.zero_le _,Nat.zero_le _,Nat.zero_le _⟩) (Ev.now _);rcases ql _ _ _ hx with rfl|hx
      ·exact⟨hsm.d,by show(nI s.2.1 nx s.1.f4).length≤1048576;rw[nj];omega,hsm.t⟩
      ·exact hA x hx
     by_cases c5:s.1.f4.length=10
     ·refine bo (by omega) ?_;rw[if_pos (.inl c5)];exact full _ rfl
     ·refine dg (by omega) ?_
      by_cases c6:T.length=30
      ·refine bo (by omega) ?_;rw[if_pos (.inr (.inl c6))];exact full _ rfl
      ·refine dg (by omega) ?_
       by_cases c7:nx=1000
       ·rw[if_pos (.inr (.inr c7))];exact full _ (by simpa using c7)
       ·rw[if_neg (by rintro(h|h|h);exact c5 h;exact c6 h;exact c7 h)];exact go c7
    ·refine dg c4 (eW (Ev.now _) (by rw[if_neg c4]))
   ·refine dg c3 (eW (Ev.now _) (by rw[if_neg c3]))
 ·refine dg c1 ?_;rw[if_neg (fun h=>c1 h.1)];exact one _ rfl
end Go.Proofs.YtlecajlnjmbilaaGreatDoor.Q
namespace Go.Proofs.YtlecajlnjmbilaaGreatDoor.Q
open Go.RowKit Go.Proofs.YtlecajlnjmbilaaGreatDoor.P Go.Proofs.ab.aq Go.Proofs.ab.aH Go.Proofs.ab.aK
structure Bd (Y:List bf):Prop where
 len:Y.length≤1048577
 a:∀y∈Y,ia y
 w:cX Y≤4611686018427380000
theorem sP (x:bf) (h:ia x):na x≤5242883:=by
 have h1:=h.d;have h2:=h.e;have h3:=h.t;unfold na inW
 omega
theorem Bd.of (T:List bf) (hT:T.length≤1048576) (hA:∀x∈T,ia x) (hw:cX T≤1000000000000):Bd T:=⟨by omega,hA,by omega⟩
theorem Bd.filter {Y:List bf}(h:Bd Y) (f:bf→Bool):Bd (Y.filter f):=
 ⟨Nat.le_trans (List.length_filter_le ..) h.len,fun y hy=>h.a y (List.mem_filter.1 hy).1,Nat.le_trans (uz f Y) h.w⟩
theorem Bd.set2 (T:List bf) (x y:bf) (hT:T.length≤1048575) (hA:∀x∈T,ia x) (hw:cX T≤1000000000000) (hx:ia x) (hy:ia y):Bd (lh y (lh x T)):=by
 have h1:=sN x T;have h2:=sP x hx;have h3:=sN y (lh x T);have h4:=sP y hy;have h5:=nt x T;have h6:=nt y (lh x T);refine⟨by omega,fun z hz=> ?_,by omega⟩;rcases ql _ _ _ hz with rfl|hz
 ·exact hy
 ·rcases ql _ _ _ hz with rfl|hz
  ·exact hx
  ·exact hA z hz
theorem acg (T:List bf) (nx:Int) (Y:List bf) (m c:Int) (hT:T.length≤1048576) (hA:∀x∈T,ia x) (hw:cX T≤1000000000000) (hY:Bd Y):
  Ev (fun k=>(ga.f k Y m Y m).bind fun e1=>(ga.f k T nx T nx).bind fun e2=>(eA.f k T 1).bind fun mt=>(eA.f k Y 1).bind fun mm=>(fv.f k mm.2 m 1).bind fun q=>
   if c=c∧e1=true∧e2=true∧¬mt.1<0∧¬q<0∧q=mm.1∧mm.2.length=Y.length then some true else none) true:=by
 have hl2:=hY.len;have hw2:=hY.w;obtain⟨mt,m1,_,_,_⟩:=abt T 1 hT (by omega) (by omega);obtain⟨mg,m2,k2,k3,hh⟩:=tz Y 1 hl2 (by omega) (by omega);have m3:=yQ mg m 1 (by omega) (by omega) (by omega) hh;rw[k3]at m3;refine Ev.bind (sq Y m (by omega) (sv hY.a)) (Ev.bind (sq T nx (by omega) (sv hA)) (Ev.bind m1 (Ev.bind m2 (Ev.bind m3 (bo ?_ (Ev.now _))))));exact⟨rfl,rfl,rfl,by dsimp only;omega,by omega,rfl,k2⟩
theorem abf (l:List nD) (h:∀x∈l,ack x):∀x∈l.map kj,nZ x:=by
 intro x hx;obtain⟨y,hy,rfl⟩:=List.mem_map.1 hx;have hS:=h y hy;refine⟨hS.d,by simpa [kj]using hS.e,by simpa [kj]using hS.t,fun z hz=> ?_,fun z hz=> ?_⟩
 ·obtain⟨u,hu,rfl⟩:=List.mem_map.1 hz;exact hS.en u hu
 ·obtain⟨u,hu,rfl⟩:=List.mem_map.1 hz;exact(hS.tn u hu).1
end Go.Proofs.YtlecajlnjmbilaaGreatDoor.Q
namespace Go.Proofs.YtlecajlnjmbilaaGreatDoor.Q
open Go.RowKit Go.Proofs.YtlecajlnjmbilaaGreatDoor.P Go.Proofs.ab.aq Go.Proofs.ab.aH Go.Proofs.ab.aK
section
variable (ex:Int→Bool) (kids:Int→List Int)
def below:Nat→Int→List Int
 |0,_=>[]
 |k+1,x=>if kids x=[]then []else x::(kids x).flatMap (below k)
variable {ex kids}
end
end Go.Proofs.YtlecajlnjmbilaaGreatDoor.Q
namespace Go.Proofs.YtlecajlnjmbilaaGreatDoor.Q
open Go.RowKit Go.Proofs.YtlecajlnjmbilaaGreatDoor.P Go.Proofs.ab.aq Go.Proofs.ab.aH Go.Proofs.ab.aK
theorem zl (n:Int) (l:List bf):∀i:Nat,cC n l i= -1∨∃j,∃h:j<l.length,cC n l i=((i+j:Nat):Int)∧l[j].f0=n:=by
 induction l with
 |nil=>intro i;exact .inl rfl
 |cons x l ih=>
  intro i;rw[cC]
  split
  ·rename_i h;exact .inr ⟨0,by simp,by simp,h⟩
  ·rcases ih (i+1)with h|⟨j,hj,h,e⟩
   ·exact .inl h
   ·exact .inr ⟨j+1,by simp;omega,by rw[h];congr 1;omega,by simpa using e⟩
theorem vZ (l:List bf) (n:Int) (h:eX l n=true):fF l n∈l∧(fF l n).f0=n:=by
 unfold eX at h;have h:=of_decide_eq_true h;rcases zl n l 0 with g|⟨j,hj,g,e⟩
 ·omega
 ·unfold fF;rw[if_neg (by omega),g]
  have:af l (((0+j:Nat):Int))=l[j]:=by rw[Nat.zero_add];exact getD_at l _ j hj
  rw[this];exact⟨List.getElem_mem hj,e⟩
theorem abH (nx:Int) (l:List bf):∀p,kV nx p l=true→∀x∈l,sr x=true:=by
 induction l with
 |nil=>intro _ _ x hx;simp at hx
 |cons y l ih=>
  intro p h x hx;simp only[kV,Bool.and_eq_true]at h;rcases List.mem_cons.1 hx with rfl|hx
  ·exact h.1.1.1
  ·exact ih _ h.2 x hx
theorem zm (es:List cz):∀p,lY p es=true→∀e∈es,2≤e.f1∧gh e.f0=true:=by
 induction es with
 |nil=>intro _ _ x hx;simp at hx
 |cons y l ih=>
  intro p h x hx;simp only[lY,Bool.and_eq_true,decide_eq_true_eq]at h;rcases List.mem_cons.1 hx with rfl|hx
  ·exact⟨h.1.1.2.1,h.1.1.1⟩
  ·exact ih _ h.2 x hx
structure abI (l:List bf):Prop where
 len:l.length≤30
 ok:∀x∈l,sr x=true
 lk:∀x∈l,x.f2=(eQ x.f0 l:Int)
 en:∀x∈l,∀e∈x.f4,eX l e.f1=true
 rt:eX l 1=true
 re:(za (eX l) (iY l) l.length [1]).length=l.length
theorem lK (l:List bf) (nx:Int) (h:km l nx=true):abI l:=by
 simp only[km,nq,Bool.and_eq_true,decide_eq_true_eq]at h;obtain⟨⟨⟨h1,_⟩,h2,_⟩,h3,h4⟩:=h
 have ht:∀x∈l,x.f2=(eQ x.f0 l:Int)∧nA l x.f4=true:=by
  intro x hx;have:=List.all_eq_true.1 h4 x hx
  simpa using this
 have hr:eX l 1=true:=by
  apply Classical.byContradiction
  intro hn;unfold pP at h3;rw[if_neg hn]at h3;simp at h3;omega
 refine⟨h1.2,abH nx l none h2,fun x hx=>(ht x hx).1,fun x hx e he=>List.all_eq_true.1 (ht x hx).2 e he,hr,?_⟩;unfold pP at h3
 rwa [if_pos hr]at h3
theorem nH (x:bf) (h:sr x=true):x.f4.length≤10∧(∀e∈x.f4,2≤e.f1∧gh e.f0=true)∧(x.f1=2→x.f2≤1)∧(x.f1≠2→x.f4=[]):=by
 simp only[sr,iy,oV,Bool.and_eq_true,decide_eq_true_eq]at h;obtain⟨⟨⟨_,he⟩,_⟩,hk⟩:=h;refine⟨he.2,zm _ _ he.1,fun h2=> ?_,fun h2=> ?_⟩
 ·unfold kindOk at hk;rw[if_neg (by omega),if_pos h2]at hk;simp only[Bool.and_eq_true,decide_eq_true_eq]at hk;exact hk.2
 ·unfold kindOk at hk
  by_cases c:x.f1=1
  ·rw[if_pos c]at hk;exact List.eq_nil_of_length_eq_zero (by simpa using hk)
  ·rw[if_neg c,if_neg h2]at hk
   cases hk
theorem abI.kids {l:List bf}(t:abI l) (n:Int) (h:eX l n=true):iY l n=(fF l n).f4.map (·.f1):=by
 unfold iY
 split
 ·rfl
 ·rename_i c
  have:=(nH _ (t.ok _ (vZ l n h).1)).2.2.2 (fun e=>c ⟨h,e⟩);rw[this];rfl
end Go.Proofs.YtlecajlnjmbilaaGreatDoor.Q
namespace Go.Proofs.YtlecajlnjmbilaaGreatDoor.Q
open Go.RowKit Go.Proofs.YtlecajlnjmbilaaGreatDoor.P Go.Proofs.ab.aq Go.Proofs.ab.aH Go.Proofs.ab.aK
end Go.Proofs.YtlecajlnjmbilaaGreatDoor.Q
namespace Go.Proofs.YtlecajlnjmbilaaGreatDoor.Q
open Go.RowKit Go.Proofs.YtlecajlnjmbilaaGreatDoor.P Go.Proofs.ab.aq Go.Proofs.ab.aH Go.Proofs.ab.aK
end Go.Proofs.YtlecajlnjmbilaaGreatDoor.Q
namespace Go.Proofs.YtlecajlnjmbilaaGreatDoor.Q
open Go.RowKit Go.Proofs.YtlecajlnjmbilaaGreatDoor.P Go.Proofs.ab.aq Go.Proofs.ab.aH Go.Proofs.ab.aK
def gtB (a b:ByteArray):Bool:= !(Op.bytesLess a.toList b.toList||a.toList==b.toList)
def leB (a b:ByteArray):Prop:=a.data.toList≤b.data.toList
theorem acr (a b:ByteArray):gtB a b=true↔¬leB a b:=by
 unfold gtB leB;rw[ByteArray.toList_eq,ByteArray.toList_eq,Go.Proofs.bytesLess_eq];simp only[Bool.not_eq_true',Bool.or_eq_false_iff,decide_eq_false_iff_not,beq_eq_false_iff_ne,ne_eq]
 constructor
 ·rintro⟨h1,h2⟩ h;exact h2 (List.le_antisymm h (List.not_lt.1 h1))
 ·intro h;exact⟨fun g=>h (List.le_of_lt g),fun g=>h (by rw[g];exact List.le_refl _)⟩
end Go.Proofs.YtlecajlnjmbilaaGreatDoor.Q
namespace Go.Proofs.YtlecajlnjmbilaaGreatDoor.Q
open Go.RowKit Go.Proofs.YtlecajlnjmbilaaGreatDoor.P Go.Proofs.ab.aq Go.Proofs.ab.aH Go.Proofs.ab.aK
def v_ (a b:ByteArray):Prop:=a.data.toList<b.data.toList
theorem zn (a b:ByteArray):Op.bytesLess a.toList b.toList=true↔v_ a b:=by
 unfold v_;rw[ByteArray.toList_eq,ByteArray.toList_eq,Go.Proofs.bytesLess_eq,decide_eq_true_eq]
theorem tE {a b c:ByteArray}(h:v_ a b) (g:v_ b c):v_ a c:=List.lt_trans h g
theorem uG (a b:ByteArray):gtB a b=true↔v_ b a:=(acr a b).trans List.not_le
section
variable {α:Type}(key:α→ByteArray) (d:α)
def rn (xs:List α) (n:ByteArray):Nat→Nat
 |0=>0
 |k+1=>if gtB (key (xs.getD k d)) n=true then rn xs n k else k+1
def xB (xs:List α) (x:α):List α:=xs.take (rn key d xs (key x) xs.length)++[x]++xs.drop (rn key d xs (key x) xs.length)
theorem ye (xs:List α) (n:ByteArray) (p:Nat) (h1:∀i (hi:i<xs.length),i<p→¬v_ n (key xs[i])) (h2:∀i (hi:i<xs.length),p≤i→v_ n (key xs[i])):
  ∀k,p≤k→k≤xs.length→rn key d xs n k=p
 |0,h,_=>by rw[rn];omega
 |k+1,h,hk=>by
  have g:xs.getD k d=xs[k]:=by rw[List.getD_eq_getElem?_getD,List.getElem?_eq_getElem (by omega)];rfl
  rw[rn,g]
  by_cases c:p=k+1
  ·rw[if_neg (fun e=>h1 k (by omega) (by omega) ((uG _ _).1 e))];exact c.symm
  ·rw[if_pos ((uG _ _).2 (h2 k (by omega) (by omega)))];exact ye xs n p h1 h2 k (by omega) (by omega)
def qn (xs:List α):Prop:=xs.Pairwise fun a b=>v_ (key a) (key b)
theorem qn.place {xs:List α}(h:qn key xs) (n:ByteArray) (p:Nat) (hp:p≤xs.length) (h1:∀i (hi:i<xs.length),i<p→¬v_ n (key xs[i])) (h2:∀hi:p<xs.length,v_ n (key xs[p])):
  rn key d xs n xs.length=p:=by
 refine ye key d xs n p h1 (fun i hi hpi=> ?_) _ hp (Nat.le_refl _)
 have hps:p<xs.length:=by omega
 rcases Nat.lt_or_ge p i with c|c
 ·exact tE (h2 hps) (List.pairwise_iff_getElem.1 h p i hps hi c)
 ·have:p=i:=by omega
  subst this;exact h2 hps
end
theorem zo (n:ByteArray) (l:List cz):∀j:Nat,(vx n l j= -1∧∀i (hi:i<l.length),¬v_ n l[i].f0)∨∃p,∃h:p<l.length,vx n l j=((j+p:Nat):Int)∧v_ n l[p].f0∧∀i (hi:i<l.length),i<p→¬v_ n l[i].f0:=by
 induction l with
 |nil=>intro j;exact .inl ⟨rfl,fun i hi=>by simp at hi⟩
 |cons x l ih=>
  intro j;rw[vx]
  by_cases c:gtS x.f0 n=true
  ·rw[if_pos c];exact .inr ⟨0,by simp,by simp,(uG _ _).1 c,fun i _ h=>by omega⟩
  ·rw[if_neg c]
   have hx:¬v_ n x.f0:=fun e=>c ((uG _ _).2 e)
   rcases ih (j+1)with⟨h,g⟩|⟨p,hp,h,g1,g2⟩
   ·refine .inl ⟨h,fun i hi=> ?_⟩
    cases i with
    |zero=>exact hx
    |succ i=>exact g i (by simpa using hi)
   ·refine .inr ⟨p+1,by simp;omega,by rw[h];congr 1;omega,g1,fun i hi hip=> ?_⟩
    cases i with
    |zero=>exact hx
    |succ i=>exact g2 i (by simpa using hi) (by omega)
theorem xC (n:ByteArray) (l:List cz) (d:cz) (h:qn (fun e:cz=>e.f0) l):rn (fun e:cz=>e.f0) d l n l.length=nW n l:=by
 unfold nW;rcases zo n l 0 with⟨h1,h2⟩|⟨p,hp,h1,h2,h3⟩
 ·rw[h1,if_pos (by decide)];exact qn.place _ d h n _ (Nat.le_refl _) (fun i hi _=>h2 i hi) (fun hi=>by omega)
 ·rw[h1,if_neg (by omega)]
  have:((0+p:Nat):Int).toNat=p:=by omega
  rw[this];exact qn.place _ d h n p (by omega) h3 (fun _=>h2)
theorem zp (l:List cz) (e d:cz) (h:qn (fun e:cz=>e.f0) l):xB (fun e:cz=>e.f0) d l e=nI e.f0 e.f1 l:=by
 unfold xB nI;rw[xC _ _ _ h]
theorem xD (l:List cz):∀p,lY p l=true→(∀q,p=some q→∀e∈l,v_ q e.f0)∧qn (fun e:cz=>e.f0) l:=by
 induction l with
 |nil=>intro p _;exact⟨fun _ _ e he=>by simp at he,List.Pairwise.nil⟩
 |cons x l ih=>
  intro p h;simp only[lY,Bool.and_eq_true]at h;obtain⟨h1,h2⟩:=ih _ h.2;refine⟨fun q hq e he=> ?_,List.pairwise_cons.2 ⟨fun e he=>h1 x.f0 rfl e he,h2⟩⟩;subst hq;have hx:v_ q x.f0:=(zn _ _).1 h.1.2;rcases List.mem_cons.1 he with rfl|he
  ·exact hx
  ·exact tE hx (h1 x.f0 rfl e he)
end Go.Proofs.YtlecajlnjmbilaaGreatDoor.Q
namespace Go.Proofs.YtlecajlnjmbilaaGreatDoor.Q
open Go.RowKit Go.Proofs.YtlecajlnjmbilaaGreatDoor.P Go.Proofs.ab.aq Go.Proofs.ab.aH Go.Proofs.ab.aK
end Go.Proofs.YtlecajlnjmbilaaGreatDoor.Q
namespace Go.Proofs.YtlecajlnjmbilaaGreatDoor.Q
open Go.RowKit Go.Proofs.YtlecajlnjmbilaaGreatDoor.P Go.Proofs.ab.aq Go.Proofs.ab.aH Go.Proofs.ab.aK
end Go.Proofs.YtlecajlnjmbilaaGreatDoor.Q
namespace Go.Proofs.YtlecajlnjmbilaaGreatDoor.Q
open Go.RowKit Go.Proofs.YtlecajlnjmbilaaGreatDoor.P Go.Proofs.ab.aq Go.Proofs.ab.aH Go.Proofs.ab.aK
theorem abJ (T:List bf) (p:ByteArray) (h:(im T p).2=0):(im T p).1∈T:=by
 unfold im at h⊢
 by_cases c:(lv T p).2=0
 ·rw[if_pos c]at h⊢
  by_cases c2:eX T (lv T p).1=true
  ·rw[if_pos c2];exact(vZ T _ c2).1
  ·rw[if_neg c2]at h;exact absurd h (by show¬(2:Int)=0;decide)
 ·rw[if_neg c]at h;exact absurd h c
theorem sg (T:List bf) (p:ByteArray) (h:(ff T p).2.2=0):(ff T p).1∈T∧(ff T p).1.f1=2∧(ff T p).2.1=(eN p).2.1:=by
 unfold ff at h⊢;dsimp only at h⊢
 by_cases c:(im T (eN p).1).2=0
 ·rw[if_pos c]at h⊢
  by_cases c2:(im T (eN p).1).1.f1=2
  ·rw[if_pos c2];exact⟨abJ T _ c,c2,rfl⟩
  ·rw[if_neg c2]at h;exact absurd h (by show¬(3:Int)=0;decide)
 ·rw[if_neg c]at h;exact absurd h c
end Go.Proofs.YtlecajlnjmbilaaGreatDoor.Q
namespace Go.Proofs.YtlecajlnjmbilaaGreatDoor.Q
open Go.RowKit Go.Proofs.YtlecajlnjmbilaaGreatDoor.P Go.Proofs.ab.aq Go.Proofs.ab.aH Go.Proofs.ab.aK
end Go.Proofs.YtlecajlnjmbilaaGreatDoor.Q
namespace Go.Proofs.YtlecajlnjmbilaaGreatDoor.Q
open Go.RowKit Go.Proofs.YtlecajlnjmbilaaGreatDoor.P Go.Proofs.ab.aq Go.Proofs.ab.aH Go.Proofs.ab.aK
end Go.Proofs.YtlecajlnjmbilaaGreatDoor.Q
namespace Go.Proofs.YtlecajlnjmbilaaGreatDoor.Q
open Go.RowKit Go.Proofs.YtlecajlnjmbilaaGreatDoor.P Go.Proofs.ab.aq Go.Proofs.ab.aH Go.Proofs.ab.aK
end Go.Proofs.YtlecajlnjmbilaaGreatDoor.Q
namespace Go.Proofs.YtlecajlnjmbilaaGreatDoor.Q
open Go.RowKit Go.Proofs.YtlecajlnjmbilaaGreatDoor.P Go.Proofs.ab.aq Go.Proofs.ab.aH Go.Proofs.ab.aK
theorem ready_one (T:List bf) (nx:Int) (p:ByteArray):kR T nx [p]=true↔(km T nx=true∧(fu p).2=true):=by
 unfold kR;simp only[List.all_cons,List.all_nil,Bool.and_true,Bool.and_eq_true];exact⟨fun h=>⟨h.2,h.1⟩,fun h=>⟨h.2,h.1⟩⟩
end Go.Proofs.YtlecajlnjmbilaaGreatDoor.Q
namespace Go.Proofs.YtlecajlnjmbilaaGreatDoor.Q
open Go.RowKit Go.Proofs.YtlecajlnjmbilaaGreatDoor.P Go.Proofs.ab.aq Go.Proofs.ab.aH Go.Proofs.ab.aK
theorem tF (p:ByteArray):(eN p).2.2=true↔((fu p).2=true∧p.toList≠([47]:List UInt8)):=by
 unfold eN
 by_cases c:(fu p).2=true
 ·rw[if_pos c]
  by_cases r:p.toList=([47]:List UInt8)
  ·have h0:(fu p).1.length=0:=by unfold fu;rw[if_pos r];rfl
   rw[if_pos h0];exact⟨fun h=>(by cases h),fun h=>absurd r h.2⟩
  ·have hne:¬(fu p).1.length=0:=by
    intro h0;have hne:=List.eq_nil_of_length_eq_zero h0;unfold fu at c hne;rw[if_neg r]at c hne;generalize (parts p.data.toList).map pA=m at c hne
    cases m with
    |nil=>cases c
    |cons x l=>
     dsimp only at c hne
     by_cases d:x.toList=[]∧l≠[]∧ft l=true
     ·rw[if_pos d]at hne;exact d.2.1 hne
     ·rw[if_neg d]at c;cases c
   rw[if_neg hne];exact⟨fun _=>⟨c,r⟩,fun _=>rfl⟩
 ·rw[if_neg c];exact⟨fun h=>(by cases h),fun h=>absurd h.1 c⟩
theorem tu (T:List bf) (nx:Int) (ps:List ByteArray) (h:kR T nx ps=true):T.length≤30:=by
 simp only[kR,km,nq,Bool.and_eq_true,decide_eq_true_eq]at h
 omega
end Go.Proofs.YtlecajlnjmbilaaGreatDoor.Q
namespace Go.Proofs.YtlecajlnjmbilaaGreatDoor.Q
open Go.RowKit Go.Proofs.YtlecajlnjmbilaaGreatDoor.P Go.Proofs.ab.aq Go.Proofs.ab.aH Go.Proofs.ab.aK
theorem wa {α:Type}(S R:List α) (k:Nat) (hk:k≤S.length) (y v:α):(S.take k++y::R).set ((k:Nat):Int).toNat v=S.take k++v::R:=by
 rw[Int.toNat_natCast,List.set_append,if_neg (by rw[List.length_take];omega),List.length_take,Nat.min_eq_left hk,Nat.sub_self,List.set_cons_zero]
theorem abK (a b:ByteArray):gtB a b=Op.bytesLess b.toList a.toList:=by
 unfold gtB;rw[Bool.not_or];exact abU _ _
abbrev keyE (e:cz):ByteArray:=e.f0
theorem tG (l:List cz) (nm:ByteArray) (ino:Int) (hl:l.length≤1048576):∀(k:Nat) (y:cz),k≤l.length→rn keyE z75 l nm l.length=rn keyE z75 l nm k→
  Ev (fun r=>cy.l0 r (l.take k++y::l.drop k) (k:Int) nm ino) (xB keyE z75 l ⟨nm,ino⟩)
 |0,y,_,hp=>by
  have hset:=wa l (l.drop 0) 0 (Nat.zero_le _) y (⟨nm,ino⟩:cz)
  have he:l.take 0++(⟨nm,ino⟩:cz)::l.drop 0=xB keyE z75 l ⟨nm,ino⟩:=by unfold xB;rw[hp];simp[rn]
  apply aV
  simp only[cy.l0];refine dg (by omega) (bo (by omega) (bo (by simp only[List.length_append,List.length_cons];omega) (eW (Ev.now _) ?_)));rw[hset,he]
 |k+1,y,hk,hp=>by
  have hw:wrap64 (((k+1:Nat):Int)-1)=(k:Int):=by rw[lr (by omega) (by omega)];omega
  have hlen:(l.take (k+1)++y::l.drop (k+1)).length=l.length+1:=by
   simp only[List.length_append,List.length_cons,List.length_take,List.length_drop];omega
  have hrd:al (l.take (k+1)++y::l.drop (k+1)) (k:Int)=l[k]:=by
   refine(getD_at _ _ k (by rw[hlen];omega)).trans ?_;rw[List.getElem_append_left (by rw[List.length_take];omega),List.getElem_take]
  have hg:l.getD k z75=l[k]:=by rw[List.getD_eq_getElem?_getD,List.getElem?_eq_getElem hk];rfl
  have hset:∀v,(l.take (k+1)++y::l.drop (k+1)).set ((k+1:Nat):Int).toNat v=l.take (k+1)++v::l.drop (k+1):=wa l _ (k+1) hk y
  have hsp:l.take (k+1)++l[k]::l.drop (k+1)=l.take k++l[k]::l.drop k:=by
   rw[List.drop_eq_getElem_cons hk,List.take_succ_eq_append_getElem hk,List.append_assoc];rfl
  rw[rn,hg,abK]at hp
  apply aV
  simp only[cy.l0,hw,hrd];refine bo (by omega) (bo (by omega) (bo (by rw[hlen];omega) ?_))
  by_cases c:Op.bytesLess nm.toList l[k].f0.toList=true
  ·rw[if_pos c]at hp;refine bo c (bo (by omega) (bo (by rw[hlen];omega) ?_));rw[hset,show(⟨l[k].f0,l[k].f1⟩:cz)=l[k]from rfl,hsp];exact tG l nm ino hl k l[k] (by omega) hp
  ·rw[if_neg c]at hp;refine dg c (bo (by omega) (bo (by rw[hlen];omega) (eW (Ev.now _) ?_)))
   have he:l.take (k+1)++(⟨nm,ino⟩:cz)::l.drop (k+1)=xB keyE z75 l ⟨nm,ino⟩:=by unfold xB;rw[hp];simp
   rw[hset,he]
theorem abL (l:List cz) (nm:ByteArray) (ino:Int) (hl:l.length≤1048576) (hs:qn keyE l):Ev (fun k=>cy.f k l nm ino) (nI nm ino l):=by
 have h:=tG l nm ino hl l.length ⟨nm,ino⟩ (Nat.le_refl _) rfl;rw[List.take_length,List.drop_length]at h;have hi:=zp l ⟨nm,ino⟩ z75 hs;unfold cy.f;simp only[Option.bind_some,List.nil_append];refine bo (by simp;omega) (bo (by simp;omega) ?_);rw[show(wrap64 (((l++[(⟨nm,ino⟩:cz)]).length:Int)-1))=(l.length:Int) by rw[List.length_append,List.length_singleton,lr (by omega) (by omega)];omega];exact eW h hi
def od (T:List bf) (p:ByteArray) (fr:Int):bf×ByteArray×Int:=
 if(eN p).2.2=true then
  (if(im T (eN p).1).2=0 then
   (if(im T (eN p).1).1.f1=2 then
    (if lL (eN p).2.1 (im T (eN p).1).1.f4=0 then
     (if(10:Int)≤((im T (eN p).1).1.f4.length:Int)∧(im T (eN p).1).1.f0≠fr then(my,⟨#[]⟩,5)else((im T (eN p).1).1,(eN p).2.1,0))
     else(my,⟨#[]⟩,4))
    else(my,⟨#[]⟩,3))
   else(my,⟨#[]⟩,(im T (eN p).1).2))
 else(my,⟨#[]⟩,1)
theorem zq (T:List bf) (nx:Int) (p:ByteArray) (fr:Int) (hT:T.length≤1048576) (hA:∀x∈T,ia x) (hp:p.size≤1048576):Ev (fun k=>ki.f k T nx p fr) (yc (od T p fr)):=by
 unfold ki.f od;refine Ev.bind (vW p hp) ?_;have hps:=qm p;have hsm:=qV T (eN p).1 hA;generalize eN p=q at*
 by_cases c1:q.2.2=true
 ·refine bo c1 (Ev.bind (yY T nx _ hT hA hps) ?_);rw[if_pos c1];simp only[tup];generalize im T q.1=s at*
  by_cases c2:s.2=0
  ·refine bo c2 ?_;rw[if_pos c2]
   by_cases c3:s.1.f1=2
   ·refine bo c3 (Ev.bind (sw _ _ _ _ _ _ _ (by have:=hsm.e;omega)) ?_);rw[if_pos c3]
    by_cases c4:lL q.2.1 s.1.f4=0
    ·refine bo c4 ?_;rw[if_pos c4]
     by_cases c5:(10:Int)≤(s.1.f4.length:Int)
     ·refine bo c5 ?_
      by_cases c6:s.1.f0=fr
      ·refine bo c6 (eW (Ev.now _) ?_);rw[if_neg (fun h=>h.2 c6)];rfl
      ·refine dg c6 (eW (Ev.now _) ?_);rw[if_pos ⟨c5,c6⟩];rfl
     ·refine dg c5 (eW (Ev.now _) ?_);rw[if_neg (fun h=>c5 h.1)];rfl
    ·refine dg c4 (eW (Ev.now _) ?_);rw[if_neg c4];rfl
   ·refine dg c3 (eW (Ev.now _) ?_);rw[if_neg c3];rfl
  ·refine dg c2 (eW (Ev.now _) ?_);rw[if_neg c2];rfl
 ·refine dg c1 (eW (Ev.now _) ?_);rw[if_neg c1];rfl
theorem zu (x:bf) (h:sr x=true):qn keyE x.f4:=by
 simp only[sr,iy,oV,Bool.and_eq_true,decide_eq_true_eq]at h;obtain⟨⟨⟨_,he⟩,_⟩,_⟩:=h;exact(xD x.f4 none he.1).2
theorem wb (T:List bf) (nx:Int) (h:km T nx=true):nx≤1000:=by
 simp only[km,nq,Bool.and_eq_true,decide_eq_true_eq]at h
 omega
theorem zv (T:List bf) (nx:Int) (p:ByteArray) (h:km T nx=true) (h1:(fu p).2=true) (h2:p.toList≠([47]:List UInt8)):
  ((ff T p).2.2≠0→(od T p 0).2.2=(ff T p).2.2)∧((ff T p).2.2=0→lL (ff T p).2.1 (ff T p).1.f4≠0→(od T p 0).2.2=4)∧
   ((ff T p).2.2=0→lL (ff T p).2.1 (ff T p).1.f4=0→(ff T p).1.f4.length=10→(od T p 0).2.2=5)∧
   ((ff T p).2.2=0→lL (ff T p).2.1 (ff T p).1.f4=0→(ff T p).1.f4.length≠10→od T p 0=((ff T p).1,(ff T p).2.1,0)):=by
 have hok:=(tF p).2 ⟨h1,h2⟩;have t:=lK T nx h;have hin:=sg T p;have hsp:ff T p=(let s:=im T (eN p).1;if s.2=0 then(if s.1.f1=2 then(s.1,(eN p).2.1,0)else(my,⟨#[]⟩,3))else(my,⟨#[]⟩,s.2)):=rfl;rw[hsp]at hin⊢;unfold od;rw[if_pos hok];dsimp only at hin⊢;generalize im T (eN p).1=s at*
 by_cases c2:s.2=0
 ·rw[if_pos c2]at hin⊢
  by_cases c3:s.1.f1=2
  ·rw[if_pos c3]at hin⊢;have hm:=(hin rfl).1;have h10:=(nH _ (t.ok _ hm)).1;have hpos:=vG _ (t.ok _ hm);dsimp only at hm h10 hpos⊢;refine⟨fun e=>absurd rfl e,fun _ e=> ?_,fun _ e e2=> ?_,fun _ e e2=> ?_⟩
   ·rw[if_pos c2,if_pos c3,if_neg e]
   ·rw[if_pos c2,if_pos c3,if_pos e,if_pos ⟨by omega,by omega⟩]
   ·rw[if_pos c2,if_pos c3,if_pos e,if_neg (fun h=>by omega)]
  ·rw[if_neg c3]at hin⊢;refine⟨fun _=>by rw[if_pos c2,if_neg c3],fun e=>absurd e (by show¬(3:Int)=0;decide),fun e=>absurd e (by show¬(3:Int)=0;decide),fun e=>absurd e (by show¬(3:Int)=0;decide)⟩
 ·rw[if_neg c2]at hin⊢;exact⟨fun _=>by rw[if_neg c2],fun e=>absurd e c2,fun e=>absurd e c2,fun e=>absurd e c2⟩
theorem acs (T:List bf) (nx:Int) (p:ByteArray) (kind:Int) (hT:T.length<1048576) (hs:∀x∈T,nZ x) (hp:p.size≤1048576) (hn: -1048576≤nx∧nx≤1048576):Ev (fun k=>bw.f k T nx p kind) (lX T nx p kind):=by
 have hA:∀x∈T,ia x:=fun x hx=>(hs x hx).a
 unfold bw.f;refine Ev.bind (qY T nx (by omega) hs) ?_
 by_cases c1:km T nx=true
 ·refine bo c1 (Ev.bind (zq T nx p 0 (by omega) hA hp) ?_);have t:=lK T nx c1;have hl30:=t.len;have hn1:=wb T nx c1
  -- what hands back beside a code
  have bad:∀(c:Int) (x:bf) (nm:ByteArray),c≠0→Ev (fun k=>bw.j1 k kind nm c T nx x.f0 x.f1 x.f2 x.f3 x.f4 x.f5) (T,nx,c):=by
   intro c x nm hc
   apply aV
   simp only[bw.j1];exact dg hc (Ev.bind (kG T nx (by omega) hA) (Ev.now _))
  by_cases c2:(fu p).2=true∧p.toList≠([47]:List UInt8)
  ·obtain⟨e1,e2,e3,e4⟩:=zv T nx p c1 c2.1 c2.2;unfold lX;rw[if_pos ⟨(ready_one T nx p).2 ⟨c1,c2.1⟩,c2.2⟩];simp only[yc]
   by_cases d1:(ff T p).2.2=0
   ·rw[if_pos d1]
    by_cases d2:lL (ff T p).2.1 (ff T p).1.f4=0
    ·rw[if_pos d2]
     by_cases d3:(ff T p).1.f4.length=10
     ·have e:=e3 d1 d2 d3;rw[if_pos (Or.inl d3)];refine dg (by rw[e];decide) ?_
      apply aV
      simp only[bw.j0];refine dg (by decide) ?_;rw[e];exact bad 5 _ _ (by decide)
     ·have e:=e4 d1 d2 d3;rw[e];have hin:=sg T p d1;have hsm:=oO T p hA;have hso:=zu _ (t.ok _ hin.1);generalize ff T p=s at*;refine bo rfl ?_
      by_cases d4:T.length=30
      ·rw[if_pos (Or.inr (Or.inl d4))];refine bo (by omega) ?_
       apply aV
       simp only[bw.j0];exact bo trivial (bad 5 s.1 s.2.1 (by decide))
      ·refine dg (by omega) ?_
       by_cases d5:nx=1000
       ·rw[if_pos (Or.inr (Or.inr d5)),decide_eq_true (show nx≥1000 by omega)]
        apply aV
        simp only[bw.j0];exact bo trivial (bad 5 s.1 s.2.1 (by decide))
       ·rw[if_neg (fun h=>by rcases h with h|h|h;exact d3 h;exact d4 h;exact d5 h),decide_eq_false (show¬nx≥1000 by omega)];have he:=hsm.e;have hlen:=nj s.2.1 nx s.1.f4;have h10:=(nH _ (t.ok _ hin.1)).1;have hx1:ia (oU s.1 (nI s.2.1 nx s.1.f4)):=⟨hsm.d,by show(nI s.2.1 nx s.1.f4).length≤1048576;omega,hsm.t⟩
        apply aV
        simp only[bw.j0];refine dg (by decide) ?_
        apply aV
        simp only[bw.j1];refine bo trivial (Ev.bind (kG T nx (by omega) hA) (Ev.bind (abL s.1.f4 s.2.1 nx he hso) (Ev.bind (vU T nx (oU s.1 (nI s.2.1 nx s.1.f4)) (by omega) hA hx1) ?_)));have hl2:=nt (oU s.1 (nI s.2.1 nx s.1.f4)) T;refine Ev.bind (vU (lh (oU s.1 (nI s.2.1 nx s.1.f4)) T) nx ⟨nx,kind,1,[],[],[]⟩ (by omega) (fun y hy=> ?_) ⟨by simp,by simp,by simp⟩) (eW (Ev.now _) ?_)
        ·rcases ql _ _ _ hy with rfl|hy
         ·exact hx1
         ·exact hA y hy
        ·rw[lr (n:=nx+1) (by omega) (by omega)]
    ·have e:=e2 d1 d2;rw[if_neg d2];refine dg (by rw[e];decide) ?_
     apply aV
     simp only[bw.j0];refine dg (by decide) ?_;rw[e];exact bad 4 _ _ (by decide)
   ·have e:=e1 d1;rw[if_neg d1];refine dg (by rw[e];exact d1) ?_
    apply aV
    simp only[bw.j0];refine dg (by decide) ?_;rw[e];exact bad _ _ _ d1
  ·have hq:¬(eN p).2.2=true:=fun h=>c2 ((tF p).1 h)
   have e:od T p 0=(my,⟨#[]⟩,1):=by unfold od;rw[if_neg hq]
   rw[e];unfold lX;rw[if_neg (fun h=>c2 ⟨((ready_one T nx p).1 h.1).2,h.2⟩)];refine dg (by show¬(1:Int)=0;decide) ?_
   apply aV
   simp only[bw.j0];refine dg (by decide) ?_;exact bad 1 my ⟨#[]⟩ (by decide)
 ·refine dg c1 (Ev.bind (kG T nx (by omega) hA) (eW (Ev.now _) ?_));unfold lX;rw[if_neg (fun h=>c1 ((ready_one T nx p).1 h.1).1)]
theorem we (T:List bf) (nx:Int) (p:ByteArray) (kind:Int) (h:¬kR T nx [p]=true):lX T nx p kind=(T,nx,1):=by
 unfold lX;rw[if_neg (fun c=>h c.1)]
theorem xE (T:List bf) (nx:Int) (p:ByteArray) (h:kR T nx [p]=true):2≤nx∧nx≤1000:=by
 simp only[kR,km,nq,Bool.and_eq_true,decide_eq_true_eq]at h
 omega
theorem xF (T:List bf) (nx:Int) (p:ByteArray) (h:kR T nx [p]=true):∀x∈T,x.f4.length<1048576:=fun x hx=>by
 have:=(nH _ ((lK T nx ((ready_one T nx p).1 h).1).ok _ hx)).1
 omega
theorem wg (T:List bf) (nx:Int) (p:ByteArray) (kind:Int) (hT:T.length≤1048576) (hs:∀x∈T,nZ x) (hp:p.size≤1048576) (h:¬kR T nx [p]=true):Ev (fun k=>bq.f k T nx p kind) (lX T nx p kind):=by
 have hA:∀x∈T,ia x:=fun x hx=>(hs x hx).a
 rw[we T nx p kind h];unfold bq.f;refine Ev.bind (nB T nx hT hA) (Ev.bind (vX T nx [p] hT hs (fun q hq=>by rw[List.mem_singleton.1 hq];exact hp) (by simp)) ?_);refine dg h ?_
 apply aV
 simp only[bq.j0];exact bo trivial (Ev.now _)
theorem acu (T:List bf) (nx:Int) (p:ByteArray) (kind:Int) (hT:T.length≤1048576) (hs:∀x∈T,nZ x) (hp:p.size≤1048576):Ev (fun k=>bq.f k T nx p kind) (lX T nx p kind):=by
 by_cases c:kR T nx [p]=true
 ·have h30:=tu T nx [p] c;have hn:=xE T nx p c;exact zk T nx p kind (by omega) hs hp (xF T nx p c) (by omega)
 ·exact wg T nx p kind hT hs hp c
theorem abM (T:List bf) (nx:Int) (p:ByteArray) (kind:Int) (hT:T.length≤1048576) (hs:∀x∈T,nZ x) (hp:p.size≤1048576):Ev (fun k=>bw.f k T nx p kind) (lX T nx p kind):=by
 by_cases c:km T nx=true
 ·have h30:T.length≤30:=(lK T nx c).len
  have hn:2≤nx∧nx≤1000:=by
   simp only[km,nq,Bool.and_eq_true,decide_eq_true_eq]at c
   omega
  exact acs T nx p kind (by omega) hs hp (by omega)
 ·rw[we T nx p kind (fun h=>c ((ready_one T nx p).1 h).1)];unfold bw.f;refine Ev.bind (qY T nx hT hs) ?_;exact dg c (Ev.bind (kG T nx hT (fun x hx=>(hs x hx).a)) (Ev.now _))
theorem ue (T:List bf) (nx:Int) (p:ByteArray) (hT:T.length≤1048576) (hs:∀x∈T,nZ x) (hp:p.size≤1048576):Ev (fun k=>iS.f k T nx p) (lX T nx p 1):=by
 unfold iS.f;exact Ev.bind (abM T nx p 1 hT hs hp) (Ev.now _)
theorem uf (T:List bf) (nx:Int) (p:ByteArray) (hT:T.length≤1048576) (hs:∀x∈T,nZ x) (hp:p.size≤1048576):Ev (fun k=>ib.f k T nx p) (lX T nx p 1):=by
 unfold ib.f;exact Ev.bind (acu T nx p 1 hT hs hp) (Ev.now _)
end Go.Proofs.YtlecajlnjmbilaaGreatDoor.Q
