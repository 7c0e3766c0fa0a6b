/- What the functions that the law reaches answer, in plain words. No condition. -/
import Derived.Sort.Walk0
import Derived.Test.YtkfoopcpihmbmaaGreatDoorPx15
set_option linter.all false
namespace Go.Proofs.YtkfoopcpihmbmaaGreatDoor.Q
open Go.RowKit Go.Proofs.YtkfoopcpihmbmaaGreatDoor.P Go.Proofs.ab.av Go.Proofs.ab.aQ Go.Proofs.ab.aT
def gtR (ino:Int):List aW→Nat→Int
 |[],_=> -1
 |x::l,i=>if ino<x.f0 then(i:Int)else gtR ino l (i+1)
def gtP (ino:Int) (l:List aW):Nat:=if gtR ino l 0<0 then l.length else(gtR ino l 0).toNat
def gy (x:aW) (l:List aW):List aW:=if 0≤dd x.f0 l 0 then l.set (dd x.f0 l 0).toNat x else l.take (gtP x.f0 l)++[x]++l.drop (gtP x.f0 l)
def mv (ino:Int) (l:List aW):List aW:=l.filter fun x=> !decide (x.f0=ino)
def eqS (a b:ByteArray):Bool:=a.toList==b.toList
def delN (s:ByteArray) (l:List cD):List cD:=l.filter fun x=> !(eqS x.f0 s)
def gtS (a b:ByteArray):Bool:= !(Op.bytesLess a.toList b.toList||a.toList==b.toList)
def gtN (s:ByteArray):List cD→Nat→Int
 |[],_=> -1
 |x::l,i=>if gtS x.f0 s=true then(i:Int)else gtN s l (i+1)
def vP (s:ByteArray) (l:List cD):Nat:=if gtN s l 0<0 then l.length else(gtN s l 0).toNat
def lW (l:List ByteArray):List ByteArray:=((l.map fun b=>b.data.toList).mergeSort fun x y=>decide (x≤y)).map fun b=>⟨b.toArray⟩
theorem aaV (s:ByteArray) (l:List cD):∀j:Nat,gtN s l j= -1∨∃i:Nat,gtN s l j=((j+i:Nat):Int)∧i<l.length:=by
 induction l with
 |nil=>intro j;exact .inl rfl
 |cons x l ih=>
  intro j;rw[gtN]
  split
  ·exact .inr ⟨0,by simp,by simp⟩
  ·rcases ih (j+1)with h|⟨i,h,hi⟩
   ·exact .inl h
   ·exact .inr ⟨i+1,by rw[h];omega,by simp only[List.length_cons];omega⟩
theorem tg (l:List ByteArray):(lW l).length=l.length:=by unfold lW;rw[List.length_map,List.length_mergeSort,List.length_map]
end Go.Proofs.YtkfoopcpihmbmaaGreatDoor.Q
namespace Go.Proofs.YtkfoopcpihmbmaaGreatDoor.Q
open Go.RowKit Go.Proofs.ab.av Go.Proofs.ab.aQ Go.Proofs.ab.aT
theorem bb {α:Type}{g:Nat→Option α}{r:α}(h:Ev (fun k=>g (k+1)) r):Ev g r:=by
 obtain⟨K,h⟩:=h;refine⟨K+1,fun n hn=> ?_⟩;obtain⟨m,rfl⟩:∃m,n=m+1:=⟨n-1,by omega⟩;exact h m (by omega)
theorem bx {α:Type}{c:Prop} [Decidable c] {A B:Nat→Option α}{r:α}(hc:c) (h:Ev A r):Ev (fun k=>if c then A k else B k) r:=by
 simpa only[if_pos hc]using h
theorem cH {α:Type}{c:Prop} [Decidable c] {A B:Nat→Option α}{r:α}(hc:¬c) (h:Ev B r):Ev (fun k=>if c then A k else B k) r:=by
 simpa only[if_neg hc]using h
theorem vq {α:Type}{c:Prop} [Decidable c] {A B:Nat→Option α}{r s:α}(hp:c→Ev A r) (hn:¬c→Ev B s):Ev (fun k=>if c then A k else B k) (if c then r else s):=by
 by_cases hc:c
 ·simpa only[if_pos hc]using hp hc
 ·simpa only[if_neg hc]using hn hc
theorem vO {α:Type}{c:Prop} [Decidable c] {A B:Nat→Option α}{r:α}(hp:c→Ev A r) (hn:¬c→Ev B r):Ev (fun k=>if c then A k else B k) r:=by
 by_cases hc:c
 ·simpa only[if_pos hc]using hp hc
 ·simpa only[if_neg hc]using hn hc
theorem eZ {α:Type}{g:Nat→Option α}{r s:α}(h:Ev g r) (e:r=s):Ev g s:=e▸h
theorem lV {n:Int}(h0: -9223372036854775808≤n) (h1:n≤9223372036854775807):wrap64 n=n:=by
 unfold wrap64
 omega
theorem wf8 {n:Int}(h:(Lit.int .u8 n).wf=true):0≤n∧n≤255:=by
 simpa [Lit.wf,IntKind.min,IntKind.max,IntKind.signed,IntKind.bits]using h
def Byt (l:List Int):Prop:=∀x∈l,0≤x∧x≤255
theorem Byt.rd {l:List Int}(h:Byt l) (i:Int):0≤rd l i∧rd l i≤255:=by
 unfold Go.Proofs.ab.av.rd;rw[List.getD_eq_getElem?_getD]
 by_cases hi:i.toNat<l.length
 ·rw[List.getElem?_eq_getElem hi];exact h _ (List.getElem_mem hi)
 ·rw[List.getElem?_eq_none (by omega)];simp
theorem drop_cons (l:List Int) (i:Nat) (h:i<l.length):l.drop i=rd l i::l.drop (i+1):=by
 rw[List.drop_eq_getElem_cons h];simp[Go.Proofs.ab.av.rd,List.getElem?_eq_getElem h]
theorem toList_data (s:ByteArray):s.toList=s.data.toList:=by
 simp[ByteArray.toList_eq]
end Go.Proofs.YtkfoopcpihmbmaaGreatDoor.Q
namespace Go.Proofs.YtkfoopcpihmbmaaGreatDoor.Q
open Go.RowKit Go.Proofs.YtkfoopcpihmbmaaGreatDoor.P Go.Proofs.ab.av Go.Proofs.ab.aQ Go.Proofs.ab.aT
def kr (c:Int):Bool:=decide (97≤c∧c≤122∨48≤c∧c≤57∨c=95∨c=45∨c=46)
def ki (s:ByteArray):Bool:=decide (1≤s.size∧s.size≤14)&&s.toList !=([46]:List UInt8)&&s.toList !=([46,46]:List UInt8)
def fa (s:ByteArray):Bool:=(bytesOf s).all kr&&ki s
theorem lX (a b c:Int):bg.f a b c=some (decide (b≤a∧a≤c)):=by
 unfold bg.f
 by_cases h:a≥b
 ·rw[if_pos h];simp[show b≤a from h]
 ·rw[if_neg h];simp[show¬b≤a from h]
theorem th (s:ByteArray):((bg.f (s.size:Int) 1 14).bind fun t101=>(if t101=true then(if s.toList=([46]:List UInt8)then(some false)else(some (s.toList !=([46,46]:List UInt8))))else(some false)))=some (ki s):=by
 rw[lX];simp only[Option.bind_some,ki]
 by_cases h:1≤s.size∧s.size≤14
 ·rw[if_pos (by simp;omega)]
  by_cases h1:s.toList=[46]
  ·simp[h1]
  ·rw[if_neg h1];simp[h,h1]
 ·rw[if_neg (by simp;omega)];simp[h]
theorem ti (s:ByteArray):(if(s.size:Int)≥1 then(if(s.size:Int)≤14 then(if s.toList=([46]:List UInt8)then(some false)else(some (s.toList !=([46,46]:List UInt8))))else(some false))else(some false))=some (ki s):=by
 unfold ki
 by_cases h:1≤s.size
 ·rw[if_pos (by omega)]
  by_cases h2:s.size≤14
  ·rw[if_pos (by omega)]
   by_cases h1:s.toList=[46]
   ·simp[h1]
   ·rw[if_neg h1];simp[h,h2,h1]
  ·rw[if_neg (by omega)];simp[h2]
 ·rw[if_neg (by omega)];simp[h]
theorem rF (s:ByteArray) (i:Nat) (h:i<s.size):(bytesOf s).drop i=bt s i::(bytesOf s).drop (i+1):=by
 rw[drop_cons _ _ (by rw[bytesOf_length];exact h),vz]
theorem rG (s:ByteArray) (hs:s.size≤9223372036854775807) (n:Nat):∀(i:Nat),i≤s.size→s.size-i=n→
  Ev (fun k=>aY.l0 k s i) (((bytesOf s).drop i).all kr&&ki s):=by
 induction n with
 |zero=>
  intro i hi hn
  apply bb
  simp only[aY.l0];refine cH (by omega) ?_;rw[th,List.drop_eq_nil_of_le (by rw[bytesOf_length];omega)]
  simpa using Ev.now _
 |succ n ih=>
  intro i hi hn
  have hlt:i<s.size:=by omega
  have hr:=tT s i;have ih:=ih (i+1) (by omega) (by omega);rw[show((i+1:Nat):Int)=wrap64 ((i:Int)+1)from by rw[lV (by omega) (by omega)];simp]at ih
  apply bb
  simp only[aY.l0,lX,Option.bind_some];rw[rF s i hlt,List.all_cons];refine bx (by omega) (bx (by omega) ?_);rw[lV (by omega) (by omega)];generalize bt s i=c at*
  by_cases h1:97≤c∧c≤122
  ·refine bx (by simp[h1]) (eZ ih ?_);simp[kr,h1]
  refine cH (by simp;omega) ?_
  by_cases h2:48≤c∧c≤57
  ·refine bx (by simp[h2]) (eZ ih ?_);simp[kr,h2]
  refine cH (by simp;omega) ?_
  by_cases h3:c=95
  ·refine bx h3 (eZ ih ?_);simp[kr,h3]
  refine cH h3 ?_
  by_cases h4:c=45
  ·refine bx h4 (eZ ih ?_);simp[kr,h4]
  refine cH h4 ?_
  by_cases h5:c=46
  ·refine bx h5 (eZ ih ?_);simp[kr,h5]
  refine cH h5 (eZ (Ev.now _) ?_)
  have:kr c=false:=by simp[kr];omega
  simp[this]
theorem kF (s:ByteArray) (hs:s.size≤9223372036854775807):Ev (fun k=>aY.f k s) (fa s):=by
 have h:=rG s hs s.size 0 (by omega) (by omega)
 simpa [aY.f,fa]using h
theorem rH (s:ByteArray) (hs:s.size≤9223372036854775807) (n:Nat):∀(i:Nat),i≤s.size→s.size-i=n→
  Ev (fun k=>cC.l0 k s (s.size:Int) i) (((bytesOf s).drop i).all kr&&ki s):=by
 induction n with
 |zero=>
  intro i hi hn
  apply bb
  simp only[cC.l0];refine cH (by omega) ?_;rw[ti,List.drop_eq_nil_of_le (by rw[bytesOf_length];omega)]
  simpa using Ev.now _
 |succ n ih=>
  intro i hi hn
  have hlt:i<s.size:=by omega
  have hr:=tT s i;have ih:=ih (i+1) (by omega) (by omega);rw[show((i+1:Nat):Int)=wrap64 ((i:Int)+1)from by rw[lV (by omega) (by omega)];simp]at ih
  apply bb
  simp only[cC.l0];rw[rF s i hlt,List.all_cons];refine bx (by omega) (bx (by omega) (bx (by omega) ?_));generalize bt s i=c at*
  by_cases hg:kr c=true
  ·have e:(((bytesOf s).drop (i+1)).all kr&&ki s)=(kr c&&((bytesOf s).drop (i+1)).all kr&&ki s):=by simp[hg]
   replace ih:=eZ ih e;simp only[kr,decide_eq_true_eq]at hg
   repeat(first|exact ih|refine vO (fun _=> ?_) (fun _=> ?_)|(exfalso;omega))
  ·have e:false=(kr c&&((bytesOf s).drop (i+1)).all kr&&ki s):=by simp[hg]
   have no:=eZ (Ev.now false) e;simp only[kr,decide_eq_true_eq]at hg
   repeat(first|exact no|refine vO (fun _=> ?_) (fun _=> ?_)|(exfalso;omega))
theorem xG (s:ByteArray) (hs:s.size≤9223372036854775807):Ev (fun k=>cC.f k s) (fa s):=by
 have h:=rH s hs s.size 0 (by omega) (by omega)
 simpa [cC.f,fa]using h
end Go.Proofs.YtkfoopcpihmbmaaGreatDoor.Q
namespace Go.Proofs.YtkfoopcpihmbmaaGreatDoor.Q
open Go.RowKit Go.Proofs.YtkfoopcpihmbmaaGreatDoor.P Go.Proofs.ab.av Go.Proofs.ab.aQ Go.Proofs.ab.aT
end Go.Proofs.YtkfoopcpihmbmaaGreatDoor.Q
namespace Go.Proofs.YtkfoopcpihmbmaaGreatDoor.Q
open Go.RowKit Go.Proofs.ab.av Go.Proofs.ab.aQ Go.Proofs.ab.aT
theorem wY {α γ:Type}(L:Nat→Int→Option γ) (xs:List α) (F:List α→γ) (h1:Ev (fun k=>L k (xs.length:Nat)) (F []))
  (h2:∀(i:Nat) (hi:i<xs.length),Ev (fun k=>L k ((i+1:Nat):Int)) (F (xs.drop (i+1)))→Ev (fun k=>L k (i:Nat)) (F (xs[i]::xs.drop (i+1)))):Ev (fun k=>L k 0) (F xs):=by
 have key:∀m i:Nat,xs.length-i=m→i≤xs.length→Ev (fun k=>L k (i:Nat)) (F (xs.drop i)):=by
  intro m
  induction m with
  |zero=>
   intro i hm hi
   obtain rfl:i=xs.length:=by omega
   rw[List.drop_length];exact h1
  |succ m ih=>
   intro i hm hi;rw[List.drop_eq_getElem_cons (by omega)];exact h2 i (by omega) (ih (i+1) (by omega) (by omega))
 simpa using key xs.length 0 (by omega) (by omega)
theorem getD_at {α:Type}(xs:List α) (z:α) (i:Nat) (hi:i<xs.length):xs.getD ((i:Nat):Int).toNat z=xs[i]:=by
 simp[List.getD_eq_getElem?_getD,List.getElem?_eq_getElem hi]
end Go.Proofs.YtkfoopcpihmbmaaGreatDoor.Q
namespace Go.Proofs.YtkfoopcpihmbmaaGreatDoor.Q
open Go.RowKit Go.Proofs.YtkfoopcpihmbmaaGreatDoor.P Go.Proofs.ab.av Go.Proofs.ab.aQ Go.Proofs.ab.aT
theorem qa (i:Nat) (n:Nat) (hi:i<n) (hn:n≤9223372036854775807):wrap64 ((i:Int)+1)=((i+1:Nat):Int):=by
 rw[lV (by omega) (by omega)];omega
end Go.Proofs.YtkfoopcpihmbmaaGreatDoor.Q
namespace Go.Proofs.YtkfoopcpihmbmaaGreatDoor.Q
open Go.RowKit Go.Proofs.YtkfoopcpihmbmaaGreatDoor.P Go.Proofs.ab.av Go.Proofs.ab.aQ Go.Proofs.ab.aT
theorem down {n:Nat}{P:Nat→Prop}(h1:P n) (h2:∀i,i<n→P (i+1)→P i):P 0:=by
 have key:∀m i:Nat,n-i=m→i≤n→P i:=by
  intro m
  induction m with
  |zero=>
   intro i hm hi
   obtain rfl:i=n:=by omega
   exact h1
  |succ m ih=>intro i hm hi;exact h2 i (by omega) (ih (i+1) (by omega) (by omega))
 exact key n 0 (by omega) (by omega)
end Go.Proofs.YtkfoopcpihmbmaaGreatDoor.Q
namespace Go.Proofs.YtkfoopcpihmbmaaGreatDoor.Q
open Go.RowKit Go.Proofs.YtkfoopcpihmbmaaGreatDoor.P Go.Proofs.ab.av Go.Proofs.ab.aQ Go.Proofs.ab.aT
def adr (a b:ByteArray):Bool:=Op.bytesLess a.toList b.toList
def upTo (p:Option ByteArray) (s:ByteArray):Bool:=match p with|none=>true|some q=>adr q s
def pe:Option ByteArray→List cD→Bool
 |_,[]=>true
 |p,e::l=>fa e.f0&&decide (2≤e.f1∧e.f1≤1000)&&upTo p e.f0&&pe (some e.f0) l
def nX:Option ByteArray→List bj→Bool
 |_,[]=>true
 |p,e::l=>fa e.f0&&decide (1≤e.f1.size∧e.f1.size≤16)&&upTo p e.f0&&nX (some e.f0) l
def lY (l:List cD) (i:Nat):Option ByteArray:=if i=0 then none else some (aA l ((i:Int)-1)).f0
def kN (l:List bj) (i:Nat):Option ByteArray:=if i=0 then none else some (bf l ((i:Int)-1)).f0
theorem tj (l:List cD) (i:Nat) (h:i<l.length):lY l (i+1)=some l[i].f0:=by
 unfold lY;rw[if_neg (by omega),show(((i+1:Nat):Int)-1)=(i:Int)from by omega,aA,getD_at l _ i h]
theorem sh (l:List bj) (i:Nat) (h:i<l.length):kN l (i+1)=some l[i].f0:=by
 unfold kN;rw[if_neg (by omega),show(((i+1:Nat):Int)-1)=(i:Int)from by omega,bf,getD_at l _ i h]
def qj (l:List cD):Bool:=pe none l&&decide (l.length≤10)
def pO (l:List bj):Bool:=nX none l&&decide (l.length≤4)
theorem xH (l:List cD) (hl:l.length≤1048576) (hn:∀e∈l,e.f0.size≤1048576):Ev (fun k=>dy.f k l) (qj l):=by
 have key:Ev (fun k=>dy.l0 k l (0:Nat)) (pe (lY l 0) (l.drop 0)&&decide (l.length≤10)):=by
  refine down (n:=l.length) (P:=fun i=>Ev (fun k=>dy.l0 k l (i:Nat)) (pe (lY l i) (l.drop i)&&decide (l.length≤10))) ?_ (fun i hi h=> ?_)
  ·rw[List.drop_length]
   apply bb
   simp only[dy.l0,pe];refine cH (by omega) (eZ (Ev.now _) ?_);simp;omega
  ·rw[List.drop_eq_getElem_cons hi];rw[tj l i hi]at h
   apply bb
   simp only[dy.l0];refine bx (by omega) ?_;have hname:=kF l[i].f0 (by have:=hn _ (List.getElem_mem hi);omega);have hrd:aA l (i:Int)=l[i]:=getD_at l _ i hi;rw[hrd,qa i l.length hi (by omega)];simp only[pe,lX,Option.bind_some];refine bx (by omega) (Ev.bind hname ?_)
   by_cases c1:fa l[i].f0=true
   ·refine bx c1 ?_
    by_cases c2:2≤l[i].f1∧l[i].f1≤1000
    ·refine bx (by simp[c2]) ?_
     by_cases c3:i=0
     ·subst c3;refine cH (by omega) (eZ h ?_);simp[c1,c2,lY,upTo]
     ·rw[lV (n:=(i:Int)-1) (by omega) (by omega)]
      have hu:upTo (lY l i) l[i].f0=Op.bytesLess (aA l ((i:Int)-1)).f0.toList l[i].f0.toList:=by unfold lY;rw[if_neg c3];rfl
      refine bx (by omega) (bx (by omega) (bx (by omega) ?_))
      by_cases c4:Op.bytesLess (aA l ((i:Int)-1)).f0.toList l[i].f0.toList=true
      ·refine bx c4 (eZ h ?_);simp[c1,c2,hu,c4]
      ·refine cH c4 (eZ (Ev.now _) ?_);simp[hu,c4]
    ·refine cH (by simp;omega) (eZ (Ev.now _) ?_);have:decide (2≤l[i].f1∧l[i].f1≤1000)=false:=decide_eq_false c2;simp[this]
   ·refine cH c1 (eZ (Ev.now _) ?_);simp[c1]
 simpa [dy.f,qj,lY]using key
theorem vQ (l:List bj) (hl:l.length≤1048576) (hn:∀e∈l,e.f0.size≤1048576):Ev (fun k=>dp.f k l) (pO l):=by
 have key:Ev (fun k=>dp.l0 k l (0:Nat)) (nX (kN l 0) (l.drop 0)&&decide (l.length≤4)):=by
  refine down (n:=l.length) (P:=fun i=>Ev (fun k=>dp.l0 k l (i:Nat)) (nX (kN l i) (l.drop i)&&decide (l.length≤4))) ?_ (fun i hi h=> ?_)
  ·rw[List.drop_length]
   apply bb
   simp only[dp.l0,nX];refine cH (by omega) (eZ (Ev.now _) ?_);simp;omega
  ·rw[List.drop_eq_getElem_cons hi];rw[sh l i hi]at h
   apply bb
   simp only[dp.l0];refine bx (by omega) ?_;have hname:=kF l[i].f0 (by have:=hn _ (List.getElem_mem hi);omega);have hrd:bf l (i:Int)=l[i]:=getD_at l _ i hi;rw[hrd,qa i l.length hi (by omega)];simp only[nX,lX,Option.bind_some];refine bx (by omega) (Ev.bind hname ?_)
   by_cases c1:fa l[i].f0=true
   ·refine bx c1 ?_
    by_cases c2:1≤l[i].f1.size∧l[i].f1.size≤16
    ·refine bx (by simp;omega) ?_
     by_cases c3:i=0
     ·subst c3;refine cH (by omega) (eZ h ?_);simp[c1,c2,kN,upTo]
     ·rw[lV (n:=(i:Int)-1) (by omega) (by omega)]
      have hu:upTo (kN l i) l[i].f0=Op.bytesLess (bf l ((i:Int)-1)).f0.toList l[i].f0.toList:=by unfold kN;rw[if_neg c3];rfl
      refine bx (by omega) (bx (by omega) (bx (by omega) ?_))
      by_cases c4:Op.bytesLess (bf l ((i:Int)-1)).f0.toList l[i].f0.toList=true
      ·refine bx c4 (eZ h ?_);simp[c1,c2,hu,c4]
      ·refine cH c4 (eZ (Ev.now _) ?_);simp[hu,c4]
    ·refine cH (by simp;omega) (eZ (Ev.now _) ?_);have:decide (1≤l[i].f1.size∧l[i].f1.size≤16)=false:=decide_eq_false c2;simp[this]
   ·refine cH c1 (eZ (Ev.now _) ?_);simp[c1]
 simpa [dp.f,pO,kN]using key
def kindOk (b c:Int) (d:List Int) (e:List cD):Bool:=if b=1 then e.length==0 else if b=2 then d.length==0&&decide (c≤1)else false
def iV (a b c:Int) (d:List Int) (e:List cD) (t:List bj):Bool:=
 decide (1≤a∧a≤1000)&&decide (0≤c∧c≤1000)&&((c==0)==(a==1))&&decide (d.length≤100)&&qj e&&pO t&&kindOk b c d e
theorem sx (b c:Int) (d:List Int) (e:List cD):(if b=1 then(some ((e.length:Int)==0))else(if b=2 then(if(d.length:Int)=0 then(some (decide (c≤1)))else(some false))else(some false)))=some (kindOk b c d e):=by
 unfold kindOk
 have h1:((e.length:Int)==0)=(e.length==0):=by rw[Bool.eq_iff_iff];simp only[beq_iff_eq];omega
 by_cases hb:b=1
 ·rw[if_pos hb,if_pos hb,h1]
 ·rw[if_neg hb,if_neg hb]
  by_cases hb2:b=2
  ·rw[if_pos hb2,if_pos hb2]
   by_cases hd:d.length=0
   ·rw[if_pos (by omega)];simp[hd]
   ·rw[if_neg (by omega)];simp[hd]
  ·rw[if_neg hb2,if_neg hb2]
theorem sy (x y:Bool):(x !=y)= !(x==y):=rfl
theorem tk (a b c:Int) (d:List Int) (e:List cD) (t:List bj) (he:e.length≤1048576) (ht:t.length≤1048576) (hen:∀x∈e,x.f0.size≤1048576) (htn:∀x∈t,x.f0.size≤1048576):
  Ev (fun k=>cW.f k a b c d e t) (iV a b c d e t):=by
 unfold cW.f;simp only[lX,Option.bind_some]
 have no:∀r:Bool,r=false→Ev (fun k=>cW.j0 k true a b c d e t) r:=by
  intro r hr
  try(apply bb;simp only[cW.j0,sx])
  exact bx (by simp) (eZ (Ev.now _) hr.symm)
 by_cases c1:1≤a∧a≤1000
 ·refine bx (by simp[c1]) ?_
  by_cases c2:0≤c∧c≤1000
  ·refine bx (by simp[c2]) ?_
   by_cases c3:((c==0)==(a==1))=true
   ·refine cH (by rw[sy,c3];simp) ?_
    by_cases c4:d.length≤100
    ·refine cH (by omega) (Ev.bind (xH e he hen) ?_)
     by_cases c5:qj e=true
     ·refine bx c5 (Ev.bind (vQ t ht htn) ?_)
      try(apply bb;simp only[cW.j0,sx])
      by_cases c6:pO t=true
      ·refine cH (by simp[c6]) ?_;refine eZ (Ev.now _) ?_;unfold iV;simp only[c1,c2,c3,c4,c5,c6,and_self,decide_true,Bool.true_and]
      ·refine bx (by simp[c6]) (eZ (Ev.now _) ?_);simp[iV,c6]
     ·exact cH c5 (no _ (by simp[iV,c5]))
    ·exact bx (by omega) (no _ (by simp[iV,c4]))
   ·refine bx (by rw[sy];simpa using c3) (no _ ?_);unfold iV;rw[Bool.not_eq_true]at c3;simp[c3]
  ·refine cH (by simp;omega) (no _ ?_);have:decide (0≤c∧c≤1000)=false:=decide_eq_false c2;simp[iV,this]
 ·refine cH (by simp;omega) (no _ ?_);have:decide (1≤a∧a≤1000)=false:=decide_eq_false c1;simp[iV,this]
end Go.Proofs.YtkfoopcpihmbmaaGreatDoor.Q
namespace Go.Proofs.YtkfoopcpihmbmaaGreatDoor.Q
open Go.RowKit Go.Proofs.YtkfoopcpihmbmaaGreatDoor.P Go.Proofs.ab.av Go.Proofs.ab.aQ Go.Proofs.ab.aT
def nN (x:aW):Bool:=iV x.f0 x.f1 x.f2 x.f3 x.f4 x.f5
def above (p:Option Int) (n:Int):Bool:=match p with|none=>true|some q=>decide (q<n)
def oV (nx:Int):Option Int→List aW→Bool
 |_,[]=>true
 |p,x::l=>nN x&&decide (x.f0<nx)&&above p x.f0&&oV nx (some x.f0) l
def lZ (l:List aW) (i:Nat):Option Int:=if i=0 then none else some (ai l ((i:Int)-1)).f0
theorem tl (l:List aW) (i:Nat) (h:i<l.length):lZ l (i+1)=some l[i].f0:=by
 unfold lZ;rw[if_neg (by omega),show(((i+1:Nat):Int)-1)=(i:Int)from by omega,ai,getD_at l _ i h]
structure iy (x:aW):Prop where
 d:x.f3.length≤1048576
 e:x.f4.length≤1048576
 t:x.f5.length≤1048576
 en:∀y∈x.f4,y.f0.size≤1048576
 tn:∀y∈x.f5,y.f0.size≤1048576
theorem uC (x:aW) (h:nN x=true):1≤x.f0:=by
 unfold nN iV at h;simp only[Bool.and_eq_true,decide_eq_true_eq]at h
 omega
def nz (l:List aW):Bool:=decide ((ai l 0).f0=1)&&((ai l 0).f1==2)
theorem si (l:List aW) (nx:Int) (hl:l.length≤1048576) (hs:∀x∈l,iy x) (hp:0<l.length):
  Ev (fun k=>ca.l0 k 0 l nx) (oV nx none l&&nz l):=by
 have key:Ev (fun k=>ca.l0 k (0:Nat) l nx) (oV nx (lZ l 0) (l.drop 0)&&nz l):=by
  refine down (n:=l.length) (P:=fun i=>Ev (fun k=>ca.l0 k (i:Nat) l nx) (oV nx (lZ l i) (l.drop i)&&nz l)) ?_ (fun i hi h=> ?_)
  ·rw[List.drop_length]
   apply bb
   simp only[ca.l0,oV];refine cH (by omega) (bx (by omega) ?_)
   by_cases c:(ai l 0).f0=1
   ·exact bx c (eZ (Ev.now _) (by simp[nz,c]))
   ·exact cH c (eZ (Ev.now _) (by simp[nz,c]))
  ·rw[List.drop_eq_getElem_cons hi];rw[tl l i hi]at h;have hT:=hs l[i] (List.getElem_mem hi);have ho:=tk l[i].f0 l[i].f1 l[i].f2 l[i].f3 l[i].f4 l[i].f5 hT.e hT.t hT.en hT.tn;have hrd:ai l (i:Int)=l[i]:=getD_at l _ i hi
   apply bb
   simp only[ca.l0,hrd];rw[qa i l.length hi (by omega)];refine bx (by omega) (bx (by omega) (Ev.bind ho ?_))
   by_cases c1:nN l[i]=true
   ·refine bx c1 ?_
    by_cases c2:l[i].f0<nx
    ·refine cH (by omega) ?_
     by_cases c3:i=0
     ·subst c3;refine cH (by omega) (eZ h ?_);simp[oV,c1,c2,lZ,above]
     ·rw[lV (n:=(i:Int)-1) (by omega) (by omega)];refine bx (by omega) (bx (by omega) (bx (by omega) ?_))
      have hu:above (lZ l i) l[i].f0=decide ((ai l ((i:Int)-1)).f0<l[i].f0):=by unfold lZ;rw[if_neg c3];rfl
      by_cases c4:(ai l ((i:Int)-1)).f0<l[i].f0
      ·refine cH (by omega) (eZ h ?_);simp[oV,c1,c2,hu,c4]
      ·refine bx (by omega) (eZ (Ev.now _) ?_);simp[oV,hu,c4]
    ·refine bx (by omega) (eZ (Ev.now _) ?_);simp[oV,c2]
   ·refine cH c1 (eZ (Ev.now _) ?_);simp[oV,c1]
 simpa [lZ]using key
def nG (l:List aW) (nx:Int):Bool:=decide (1≤l.length∧l.length≤30)&&decide (2≤nx∧nx≤1000)&&(oV nx none l&&nz l)
theorem vR (l:List aW) (nx:Int) (hl:l.length≤1048576) (hs:∀x∈l,iy x):Ev (fun k=>ca.f k l nx) (nG l nx):=by
 unfold ca.f nG;simp only[lX,Option.bind_some]
 have no:∀r:Bool,r=false→Ev (fun k=>ca.j0 k true l nx) r:=by
  intro r hr
  apply bb
  simp only[ca.j0];exact bx (by simp) (eZ (Ev.now _) hr.symm)
 by_cases c1:1≤l.length∧l.length≤30
 ·refine bx (by simp;omega) ?_
  by_cases c2:2≤nx∧nx≤1000
  ·apply bb
   simp only[ca.j0];refine cH (by simp[c2]) (eZ (si l nx hl hs (by omega)) ?_);simp[c1,c2]
  ·rw[show decide (2≤nx∧nx≤1000)=false from decide_eq_false c2];exact no _ (by simp)
 ·refine cH (by simp;omega) (no _ ?_);rw[show decide (1≤l.length∧l.length≤30)=false from decide_eq_false c1]
  rfl
end Go.Proofs.YtkfoopcpihmbmaaGreatDoor.Q
namespace Go.Proofs.YtkfoopcpihmbmaaGreatDoor.Q
open Go.RowKit Go.Proofs.YtkfoopcpihmbmaaGreatDoor.P Go.Proofs.ab.av Go.Proofs.ab.aQ Go.Proofs.ab.aT
def gh (n:Int) (e:List cD):Nat:=(e.filter fun x=>decide (x.f1=n)).length
def fj (n:Int) (x:aW):Nat:=if x.f1=2 then gh n x.f4 else 0
def eW (n:Int) (l:List aW):Nat:=(l.map (fj n)).sum
theorem sj (n:Int) (e:List cD) (j:Nat) (hj:j<e.length):gh n (e.drop j)=(if e[j].f1=n then 1 else 0)+gh n (e.drop (j+1)):=by
 unfold gh;rw[List.drop_eq_getElem_cons hj,List.filter_cons]
 by_cases h:e[j].f1=n
 ·rw[if_pos (by simpa using h),if_pos h,List.length_cons];omega
 ·rw[if_neg (by simpa using h),if_neg h];omega
theorem tm (n:Int) (l:List aW) (j:Nat) (hj:j<l.length):eW n (l.drop j)=fj n l[j]+eW n (l.drop (j+1)):=by
 unfold eW;rw[List.drop_eq_getElem_cons hj,List.map_cons,List.sum_cons]
theorem vS (L:List aW) (nx n:Int) (hl:L.length≤1048576) (hs:∀x∈L,x.f4.length≤1048576) (hu:eW n L≤4611686018427387904):Ev (fun k=>bq.f k L nx n) (eW n L:Int):=by
 have key:∀acc:Nat,acc+eW n (L.drop 0)≤4611686018427387904→Ev (fun k=>bq.l0 k n (acc:Int) (0:Nat) L nx) ((acc+eW n (L.drop 0):Nat):Int):=by
  refine down (n:=L.length) (P:=fun i=>∀acc:Nat,acc+eW n (L.drop i)≤4611686018427387904→Ev (fun k=>bq.l0 k n (acc:Int) (i:Nat) L nx) ((acc+eW n (L.drop i):Nat):Int)) ?_ (fun i hi ih=> ?_)
  ·intro acc _;rw[List.drop_length]
   apply bb
   simp only[bq.l0];exact cH (by omega) (eZ (Ev.now _) (by simp[eW]))
  ·intro acc hb;rw[tm n L i hi]at hb⊢;have hx:=hs _ (List.getElem_mem hi);have ih:=ih (acc+fj n L[i]) (by omega);rw[←qa i L.length hi (by omega)]at ih;have ih:Ev (fun k=>bq.l0 k n ((acc+fj n L[i]:Nat):Int) (wrap64 ((i:Int)+1)) L nx) ((acc+(fj n L[i]+eW n (L.drop (i+1))):Nat):Int):=eZ ih (by omega);generalize ((acc+(fj n L[i]+eW n (L.drop (i+1))):Nat):Int)=R at ih⊢
   apply bb
   simp only[bq.l0];refine bx (by omega) ?_;have hrd:ai L (i:Int)=L[i]:=getD_at L _ i hi
   have go:∀acc j,Ev (fun k=>bq.l0 k n acc (wrap64 ((i:Int)+1)) L nx) R→Ev (fun k=>bq.j2 k n acc i j false L nx) R:=by
    intro acc j h
    apply bb
    simp only[bq.j2];exact cH (by simp) h
   by_cases hk:L[i].f1=2
   ·unfold fj at ih hb;rw[if_pos hk]at ih hb
    have inner:∀acc:Nat,acc+gh n (L[i].f4.drop 0)≤4611686018427387904→Ev (fun k=>bq.l0 k n ((acc+gh n (L[i].f4.drop 0):Nat):Int) (wrap64 ((i:Int)+1)) L nx) R→Ev (fun k=>bq.l1 k n (acc:Int) i (0:Nat) L nx) R:=by
     refine down (n:=L[i].f4.length) (P:=fun j=>∀acc:Nat,acc+gh n (L[i].f4.drop j)≤4611686018427387904→Ev (fun k=>bq.l0 k n ((acc+gh n (L[i].f4.drop j):Nat):Int) (wrap64 ((i:Int)+1)) L nx) R→Ev (fun k=>bq.l1 k n (acc:Int) i (j:Nat) L nx) R) ?_ (fun j hj ihj=> ?_)
     ·intro acc _ h;rw[List.drop_length]at h
      apply bb
      simp only[bq.l1,hrd];exact bx (by omega) (bx (by omega) (cH (by omega) (go _ _ (by simpa [gh]using h))))
     ·intro acc hb h;rw[sj n _ j hj]at hb h
      apply bb
      simp only[bq.l1,hrd];refine bx (by omega) (bx (by omega) (bx (by omega) ?_))
      apply bb
      simp only[bq.j2,hrd];have hrj:aA L[i].f4 (j:Int)=L[i].f4[j]:=getD_at L[i].f4 _ j hj;refine bx (by simp[hk]) (bx (by omega) (bx (by omega) (bx (by omega) (bx (by omega) ?_))));rw[hrj,qa j L[i].f4.length hj (by omega)]
      by_cases he:L[i].f4[j].f1=n
      ·rw[if_pos he]at hb h;refine bx he ?_;rw[lV (n:=(acc:Int)+1) (by omega) (by omega)];have:=ihj (acc+1) (by omega) (by rw[show acc+1+gh n (L[i].f4.drop (j+1))=acc+(1+gh n (L[i].f4.drop (j+1)))from by omega];exact h)
       simpa using this
      ·rw[if_neg he]at hb h;refine cH he (ihj acc (by omega) ?_)
       simpa using h
    exact inner acc (by simp only[List.drop_zero];omega) (by simpa using ih)
   ·unfold fj at ih;rw[if_neg hk]at ih
    apply bb
    simp only[bq.l1,hrd];refine bx (by omega) (bx (by omega) (vO (fun _=> ?_) (fun _=>go _ _ (by simpa using ih))));rw[show(L[i].f1==2)=false from by simp[hk]];exact go _ _ (by simpa using ih)
 have:=key 0 (by simpa using hu)
 simpa [bq.f]using this
end Go.Proofs.YtkfoopcpihmbmaaGreatDoor.Q
namespace Go.Proofs.YtkfoopcpihmbmaaGreatDoor.Q
open Go.RowKit Go.Proofs.YtkfoopcpihmbmaaGreatDoor.P Go.Proofs.ab.av Go.Proofs.ab.aQ Go.Proofs.ab.aT
structure fJ (x:aW):Prop where
 d:x.f3.length≤1048576
 e:x.f4.length≤1048576
 t:x.f5.length≤1048576
theorem aaW (x:aW) (h:fJ x):gw.f x.f0 x.f1 x.f2 x.f3 x.f4 x.f5=some (x.f0,x.f1,x.f2,x.f3,x.f4,x.f5):=by
 have hd:=h.d;have he:=h.e;have ht:=h.t
 have a:cU.f x.f3=some x.f3:=by unfold cU.f;simp;omega
 have b:et.f x.f4=some x.f4:=by unfold et.f;simp;omega
 have c:ef.f x.f5=some x.f5:=by unfold ef.f;simp;omega
 unfold gw.f;rw[a,Option.bind_some,b,Option.bind_some,c,Option.bind_some]
end Go.Proofs.YtkfoopcpihmbmaaGreatDoor.Q
namespace Go.Proofs.YtkfoopcpihmbmaaGreatDoor.Q
open Go.RowKit Go.Proofs.YtkfoopcpihmbmaaGreatDoor.P Go.Proofs.ab.av Go.Proofs.ab.aQ Go.Proofs.ab.aT
theorem oG (x:aW) (h:fJ x):dh.f x.f0 x.f1 x.f2 x.f3 x.f4 x.f5=some (x.f0,x.f1,x.f2,x.f3,x.f4,x.f5):=by
 have hd:=h.d;have he:=h.e;have ht:=h.t;unfold dh.f;simp only[Option.bind_some,List.length_nil,List.nil_append];rw[if_pos (by omega),if_pos (by omega),if_pos (by omega)]
end Go.Proofs.YtkfoopcpihmbmaaGreatDoor.Q
namespace Go.Proofs.YtkfoopcpihmbmaaGreatDoor.Q
open Go.RowKit Go.Proofs.YtkfoopcpihmbmaaGreatDoor.P Go.Proofs.ab.av Go.Proofs.ab.aQ Go.Proofs.ab.aT
theorem jw (ino:Int) (l:List aW):∀i:Nat,dd ino l i= -1∨((i:Int)≤dd ino l i∧dd ino l i<i+l.length):=by
 induction l with
 |nil=>intro i;exact .inl rfl
 |cons x l ih=>
  intro i;rw[dd]
  split
  ·right;simp only[List.length_cons];omega
  ·rcases ih (i+1)with h|h
   ·exact .inl h
   ·right;simp only[List.length_cons];omega
theorem oI (l:List aW) (nx ino:Int) (hl:l.length≤1048576):Ev (fun k=>da.f k l nx ino) (dd ino l 0):=by
 have key:=down (n:=l.length) (P:=fun i=>Ev (fun k=>da.l0 k ino (i:Nat) l nx) (dd ino (l.drop i) i)) (by
   apply bb
   simp only[da.l0];refine cH (by omega) (eZ (Ev.now _) ?_)
   rw[List.drop_length];rfl) (fun i hi h=>by
   have hrd:ai l (i:Int)=l[i]:=getD_at l _ i hi
   apply bb
   simp only[da.l0,hrd];rw[qa i l.length hi (by omega),List.drop_eq_getElem_cons hi,dd];refine bx (by omega) (bx (by omega) ?_)
   by_cases c:l[i].f0=ino
   ·exact bx c (eZ (Ev.now _) (by rw[if_pos c]))
   ·exact cH c (eZ h (by rw[if_neg c])))
 simpa [da.f]using key
end Go.Proofs.YtkfoopcpihmbmaaGreatDoor.Q
namespace Go.Proofs.YtkfoopcpihmbmaaGreatDoor.Q
open Go.RowKit Go.Proofs.YtkfoopcpihmbmaaGreatDoor.P Go.Proofs.ab.av Go.Proofs.ab.aQ Go.Proofs.ab.aT
def eg (l:List aW) (ino:Int):aW:=if dd ino l 0<0 then⟨0,0,0,[],[],[]⟩else ai l (dd ino l 0)
def dz (l:List aW) (ino:Int):Bool:=decide (0≤dd ino l 0)
theorem jx (l:List aW) (ino:Int) (hs:∀x∈l,fJ x):fJ (eg l ino):=by
 unfold eg
 split
 ·exact⟨by simp,by simp,by simp⟩
 ·rcases jw ino l 0 with h|h
  ·omega
  ·obtain⟨n,hn⟩:∃n:Nat,dd ino l 0=n:=⟨(dd ino l 0).toNat,by omega⟩;rw[hn]at h⊢
   have hlt:n<l.length:=by omega
   have hrd:ai l (n:Int)=l[n]:=getD_at l _ n hlt;rw[hrd];exact hs _ (List.getElem_mem hlt)
theorem pP (l:List aW) (nx ino:Int) (hl:l.length≤1048576) (hs:∀x∈l,fJ x):
  Ev (fun k=>gi.f k l nx ino) ((eg l ino).f0,(eg l ino).f1,(eg l ino).f2,(eg l ino).f3,(eg l ino).f4,(eg l ino).f5,dz l ino):=by
 have hc:=jx l ino hs;have hr:=jw ino l 0;unfold gi.f jj.f;refine Ev.bind (bx (by omega) (Ev.now _)) ?_
 by_cases c:dd ino l 0<0
 ·refine bx c (eZ (Ev.now _) ?_);simp only[eg,dz,if_pos c,show decide (0≤dd ino l 0)=false from decide_eq_false (by omega)]
 ·have hi:eg l ino=ai l (dd ino l 0):=by simp only[eg,if_neg c]
  rw[hi]at hc⊢;refine cH c (bx (by omega) (bx (by omega) ?_));simp only[aaW _ hc,Option.bind_some];refine eZ (Ev.now _) ?_;simp only[dz,show decide (0≤dd ino l 0)=true from decide_eq_true (by omega)]
end Go.Proofs.YtkfoopcpihmbmaaGreatDoor.Q
namespace Go.Proofs.YtkfoopcpihmbmaaGreatDoor.Q
open Go.RowKit Go.Proofs.YtkfoopcpihmbmaaGreatDoor.P Go.Proofs.ab.av Go.Proofs.ab.aQ Go.Proofs.ab.aT
theorem ln (l:List aW) (nx ino:Int) (hl:l.length≤1048576) (hs:∀x∈l,fJ x):
  Ev (fun k=>eV.f k l nx ino) ((eg l ino).f0,(eg l ino).f1,(eg l ino).f2,(eg l ino).f3,(eg l ino).f4,(eg l ino).f5,dz l ino):=by
 have hc:=jx l ino hs;have hr:=jw ino l 0;unfold eV.f;refine Ev.bind (oI l nx ino hl) ?_
 by_cases c:dd ino l 0<0
 ·refine bx c (eZ (Ev.now _) ?_);simp only[eg,dz,if_pos c,show decide (0≤dd ino l 0)=false from decide_eq_false (by omega)]
 ·have hi:eg l ino=ai l (dd ino l 0):=by simp only[eg,if_neg c]
  rw[hi]at hc⊢;refine cH c (bx (by omega) (bx (by omega) ?_));simp only[oG _ hc,Option.bind_some];refine eZ (Ev.now _) ?_;simp only[dz,show decide (0≤dd ino l 0)=true from decide_eq_true (by omega)]
end Go.Proofs.YtkfoopcpihmbmaaGreatDoor.Q
namespace Go.Proofs.YtkfoopcpihmbmaaGreatDoor.Q
open Go.RowKit Go.Proofs.YtkfoopcpihmbmaaGreatDoor.P Go.Proofs.ab.av Go.Proofs.ab.aQ Go.Proofs.ab.aT
def iC (name:ByteArray):List cD→Int
 |[]=>0
 |e::l=>if e.f0.toList=name.toList then e.f1 else iC name l
theorem rI (a b c:Int) (d:List Int) (e:List cD) (t:List bj) (name:ByteArray) (he:e.length≤9223372036854775807):Ev (fun k=>eK.f k a b c d e t name) (iC name e):=by
 unfold eK.f;refine wY (fun k i=>eK.l0 k name i a b c d e t) e (iC name) ?_ (fun i hi h=> ?_)
 ·apply bb
  simp only[eK.l0];exact cH (by omega) (Ev.now _)
 ·apply bb
  simp only[eK.l0,aA,getD_at e _ i hi,iC];refine bx (by omega) (bx (by omega) ?_);rw[qa i e.length hi he];exact vq (fun _=>Ev.now _) (fun _=>h)
theorem vT (a b c:Int) (d:List Int) (e:List cD) (t:List bj) (name:ByteArray) (he:e.length≤9223372036854775807):Ev (fun k=>eY.f k a b c d e t name) (iC name e):=by
 unfold eY.f;refine wY (fun k i=>eY.l0 k name e (e.length:Int) i) e (iC name) ?_ (fun i hi h=> ?_)
 ·apply bb
  simp only[eY.l0];exact cH (by omega) (Ev.now _)
 ·apply bb
  simp only[eY.l0,aA,getD_at e _ i hi,iC];refine bx (by omega) (bx (by omega) (bx (by omega) ?_));rw[qa i e.length hi he];exact vq (fun _=>Ev.now _) (fun _=>h)
end Go.Proofs.YtkfoopcpihmbmaaGreatDoor.Q
namespace Go.Proofs.YtkfoopcpihmbmaaGreatDoor.Q
open Go.RowKit Go.Proofs.YtkfoopcpihmbmaaGreatDoor.P Go.Proofs.ab.av Go.Proofs.ab.aQ Go.Proofs.ab.aT
theorem abG (i:Nat) (n:Nat) (hi:i<n) (hn:n≤9223372036854775807):wrap64 ((i:Int)+1)=((i+1:Nat):Int):=by
 rw[lV (by omega) (by omega)];omega
theorem ads {n:Nat}{P:Nat→Prop}(h1:P n) (h2:∀i,i<n→P (i+1)→P i):P 0:=by
 have key:∀m i:Nat,n-i=m→i≤n→P i:=by
  intro m
  induction m with
  |zero=>
   intro i hm hi
   obtain rfl:i=n:=by omega
   exact h1
  |succ m ih=>intro i hm hi;exact h2 i (by omega) (ih (i+1) (by omega) (by omega))
 exact key n 0 (by omega) (by omega)
theorem rdS (l:List ByteArray) (i:Nat) (h:i<l.length):dr ByteArray.empty l (i:Int)=l[i]:=getD_at l _ i h
def iW (l:List ByteArray):Nat:=(l.map ByteArray.size).sum
theorem vU (l:List ByteArray) (i:Nat) (h:i<l.length):iW (l.drop i)=l[i].size+iW (l.drop (i+1)):=by
 unfold iW;rw[List.drop_eq_getElem_cons h,List.map_cons,List.sum_cons]
theorem xI (l:List ByteArray):∀x∈l,x.size≤iW l:=by
 induction l with
 |nil=>intro x hx;cases hx
 |cons y l ih=>
  intro x hx;unfold iW at ih⊢;rw[List.map_cons,List.sum_cons];rcases List.mem_cons.1 hx with rfl|hx
  ·omega
  ·have:=ih x hx;omega
theorem abH (l:List ByteArray) (hs:∀x∈l,x.size≤1048576):∀i:Nat,∃r,Ev (fun k=>badR k l i) r∧(decide (0≤r))= !(l.all fa):=by
 induction l with
 |nil=>intro i;exact⟨-1,Ev.now _,rfl⟩
 |cons x l ih=>
  intro i;have hx:=xG x (by have:=hs x (List.mem_cons_self ..);omega)
  by_cases c:fa x=true
  ·obtain⟨r,h1,h2⟩:=ih (fun y hy=>hs y (List.mem_cons_of_mem _ hy)) (i+1);refine⟨r,?_,by rw[h2,List.all_cons,c,Bool.true_and]⟩;simp only[badR];exact Ev.bind hx (bx c h1)
  ·refine⟨(i:Int),?_,by simp[c]⟩;simp only[badR];exact Ev.bind hx (cH c (Ev.now _))
def ej (l:List ByteArray):Bool:=l.all fa&&decide (l.length≤30)
theorem vV (l:List ByteArray) (hs:∀x∈l,x.size≤1048576):Ev (fun k=>gj.f k l) (ej l):=by
 unfold gj.f ej
 by_cases c:l.length≤30
 ·obtain⟨r,h1,h2⟩:=abH l hs 0;refine bx c (Ev.bind h1 (eZ (Ev.now _) ?_));rw[h2];simp[c]
 ·exact cH c (eZ (Ev.now _) (by simp[c]))
end Go.Proofs.YtkfoopcpihmbmaaGreatDoor.Q
namespace Go.Proofs.YtkfoopcpihmbmaaGreatDoor.Q
open Go.RowKit Go.Proofs.YtkfoopcpihmbmaaGreatDoor.P Go.Proofs.ab.av Go.Proofs.ab.aQ Go.Proofs.ab.aT
def gx (q:List UInt8):List (List UInt8)→List (List UInt8)
 |[]=>[q]
 |p::ps=>(q++p)::ps
def parts:List UInt8→List (List UInt8)
 |[]=>[[]]
 |b::l=>if b=47 then []::parts l else gx [b] (parts l)
theorem kj (l:List UInt8):parts l≠[]:=by
 cases l with
 |nil=>simp[parts]
 |cons b l=>
  rw[parts]
  split
  ·simp
  ·cases parts l<;>simp[gx]
theorem nY (X:List (List UInt8)) (h:X≠[]):gx [] X=X:=by
 cases X with
 |nil=>exact absurd rfl h
 |cons p ps=>rfl
theorem qB (q r:List UInt8) (X:List (List UInt8)):gx q (gx r X)=gx (q++r) X:=by
 cases X<;>simp[gx]
theorem xJ (k:Nat) (b:UInt8) (l:List UInt8) (h:b≠47):Lib.splitK [47] 0 k (b::l)=gx [b] (Lib.splitK [47] 0 k l):=by
 cases k with
 |zero=>rfl
 |succ k=>
  have hp:([47]:List UInt8).isPrefixOf (b::l)=false:=by simp[List.isPrefixOf,Ne.symm h]
  have hix:Lib.index (b::l) [47]=if Lib.index l [47]== -1 then-1 else Lib.index l [47]+1:=by rw[Lib.index,hp];simp
  by_cases hm:Lib.index l [47]= -1
  ·rw[Lib.splitK,Lib.splitK,hix,hm];rfl
  ·have hge:=Lib.index_ge l [47];obtain⟨j,hj⟩:∃j:Nat,Lib.index l [47]=j:=⟨(Lib.index l [47]).toNat,by omega⟩
   have hix':Lib.index (b::l) [47]=((j+1:Nat):Int):=by rw[hix,if_neg (fun e=>hm (beq_iff_eq.1 e)),hj];omega
   have n1:¬(((j+1:Nat):Int)== -1)=true:=fun e=>by have:=beq_iff_eq.1 e;omega
   have n2:¬((j:Int)== -1)=true:=fun e=>by have:=beq_iff_eq.1 e;omega
   rw[Lib.splitK,Lib.splitK,hix',hj,if_neg n1,if_neg n2,Int.toNat_natCast,Int.toNat_natCast];simp[gx]
theorem xK (k:Nat) (l:List UInt8):Lib.splitK [47] 0 (k+1) (47::l)=[]::Lib.splitK [47] 0 k l:=by
 have hix:Lib.index (47::l) [47]=0:=by rw[Lib.index];simp[List.isPrefixOf]
 rw[Lib.splitK,hix,if_neg (by decide)];simp
theorem tp (l:List UInt8):Lib.splitK [47] 0 (Lib.count l [47]) l=parts l:=by
 induction l with
 |nil=>rw[Lib.count_miss (by simp[Lib.index])];rfl
 |cons b l ih=>
  rw[parts]
  by_cases h:b=47
  ·subst h;rw[if_pos rfl,Lib.count_cons_eq,Nat.add_comm,xK,ih]
  ·rw[if_neg h,Lib.count_cons_ne b 47 l h,xJ _ _ _ h,ih]
def nZ (l:List UInt8):ByteArray:=⟨l.toArray⟩
theorem pQ (s:ByteArray):nZ s.data.toList=s:=by simp[nZ]
theorem uD (l:List UInt8):(nZ l).size=l.length:=by rw[←fb];simp[nZ]
theorem rJ (l:List UInt8):(nZ l).data.toList=l:=by simp[nZ]
theorem tq (s:ByteArray):Lib.splitB ⟨#[47]⟩ 0 (Lib.countB s ⟨#[47]⟩) s=(parts s.data.toList).map nZ:=by
 have h:=Lib.splitB_data ⟨#[47]⟩ 0 (Lib.countB s ⟨#[47]⟩) s;have hc:Lib.countB s ⟨#[47]⟩=Lib.count s.data.toList [47]:=rfl;rw[show(⟨#[47]⟩:ByteArray).data.toList=[47]from rfl,hc,tp]at h;rw[hc,←h,List.map_map]
 conv=>lhs;rw[←List.map_id (Lib.splitB _ _ _ _)]
 apply List.map_congr_left
 intro x _;exact(pQ x).symm
theorem xL (l:List UInt8):∀p∈parts l,p.length≤l.length:=by
 induction l with
 |nil=>intro p hp;simp[parts]at hp;subst hp;simp
 |cons b l ih=>
  intro p hp;rw[parts]at hp
  split at hp
  ·rcases List.mem_cons.1 hp with rfl|hp
   ·simp
   ·have:=ih p hp;simp;omega
  ·cases hX:parts l with
   |nil=>exact absurd hX (kj l)
   |cons q X=>
    rw[hX]at hp ih;rcases List.mem_cons.1 hp with rfl|hp
    ·have:=ih q (List.mem_cons_self ..);simp;omega
    ·have:=ih p (List.mem_cons_of_mem _ hp);simp;omega
theorem qk (l:List UInt8):(parts l).length≤l.length+1:=by
 induction l with
 |nil=>simp[parts]
 |cons b l ih=>
  rw[parts]
  split
  ·simp;omega
  ·cases hX:parts l with
   |nil=>simp[gx]
   |cons q X=>rw[hX]at ih;simp[gx]at ih⊢;omega
def cw (s:ByteArray):List ByteArray×Bool:=
 if s.toList=([47]:List UInt8)then([],true)else
 match(parts s.data.toList).map nZ with
 |[]=>([],false)
 |x::l=>if x.toList=[]∧l≠[]∧ej l=true then(l,true)else([],false)
theorem vW (s:ByteArray) (hs:s.size≤1048576):Ev (fun k=>gv.f k s) (cw s):=by
 unfold gv.f cw;refine vq (fun _=>Ev.now _) (fun _=> ?_)
 have h0:strings_Split.f s ⟨#[47]⟩=some ((parts s.data.toList).map nZ):=by
  unfold strings_Split.f;rw[if_pos ⟨by omega,by decide⟩,tq]
 simp only[h0,Option.bind_some];have hps:=xL s.data.toList;have hsz:s.data.toList.length=s.size:=fb s;have hpl:=qk s.data.toList
 cases hX:parts s.data.toList with
 |nil=>exact absurd hX (kj _)
 |cons p ps=>
  rw[hX]at hps hpl;rw[List.map_cons];refine bx (by rw[List.length_cons];omega) ?_;have hr:dr ByteArray.empty (nZ p::ps.map nZ) 0=nZ p:=rfl;simp only[hr]
  by_cases c:(nZ p).toList=[]
  ·refine bx c ?_
   cases hq:ps with
   |nil=>exact bx (by simp) (eZ (Ev.now _) (by simp))
   |cons q qs=>
    rw[←hq]
    have hne:ps.map nZ≠[]:=by rw[hq];simp
    have hl:0<ps.length:=by rw[hq];simp
    refine cH (by simp;omega) (bx (by simp;omega) ?_)
    have hn:=vV (ps.map nZ) (by
     intro x hx;obtain⟨y,hy,rfl⟩:=List.mem_map.1 hx;rw[uD];have:=hps y (List.mem_cons_of_mem _ hy)
     omega)
    refine Ev.bind hn ?_
    by_cases g:ej (ps.map nZ)=true
    ·exact bx g (eZ (Ev.now _) (by rw[if_pos ⟨c,hne,g⟩];rfl))
    ·exact cH g (eZ (Ev.now _) (by rw[if_neg (fun h=>g h.2.2)]))
  ·exact cH c (eZ (Ev.now _) (by rw[if_neg (fun h=>c h.1)]))
def proc:List ByteArray→List (List UInt8)→Option (List ByteArray)
 |out,[]=>some out
 |out,p::ps=>if fa (nZ p)=true then(if out.length=30 then none else proc (out++[nZ p]) ps)else none
theorem abI (ps:List (List UInt8)):∀out:List ByteArray,out.length≤30→proc out ps=if(ps.map nZ).all fa=true∧out.length+ps.length≤30 then some (out++ps.map nZ)else none:=by
 induction ps with
 |nil=>intro out h;simp[proc,h]
 |cons p ps ih=>
  intro out h;rw[proc]
  by_cases c:fa (nZ p)=true
  ·rw[if_pos c]
   by_cases d:out.length=30
   ·rw[if_pos d,if_neg (by simp;omega)]
   ·rw[if_neg d,ih _ (by simp;omega)];simp only[List.map_cons,List.all_cons,c,Bool.true_and,List.length_append,List.length_cons,List.length_nil,List.append_assoc,List.singleton_append]
    congr 1
    simp only[Nat.zero_add,Nat.add_assoc,Nat.add_comm 1]
  ·rw[if_neg c,if_neg (by simp[c])]
def tr (s:ByteArray):Option (List ByteArray)→List ByteArray×Bool
 |none=>([],false)
 |some out=>if s.data.toList.head? =some 47 then(out,true)else([],false)
theorem tt (s:ByteArray) (i:Nat) (h:i<s.size):bt s (i:Int)=((s.data.toList[i]'(by rw[fb];exact h)).toNat:Int):=by
 rw[←iq s (i:Int) (by rw[Int.toNat_natCast];exact h)];simp only[Int.toNat_natCast]
 rfl
theorem u47 (b:UInt8):((b.toNat:Int)=47)↔b=47:=by
 constructor
 ·intro h
  have:b.toNat=47:=by omega
  exact UInt8.toNat_inj.1 (this.trans rfl)
 ·rintro rfl;rfl
theorem ob (s:ByteArray) (out:List ByteArray) (i f:Int) (k:Nat) (h:¬i≤(s.size:Int)):aH.l0 (k+1) s out f i=some (tr s (some out)):=by
 simp only[aH.l0];rw[if_neg h];have hsz:s.data.toList.length=s.size:=fb s
 cases hd:s.data.toList with
 |nil=>
  rw[hd]at hsz;rw[if_pos (by simp at hsz;omega)];simp[tr,hd]
 |cons b l=>
  have hl:0<s.size:=by rw[←hsz,hd];simp
  rw[if_neg (by omega),if_pos (by omega)];have hb:=tt s 0 hl;simp only[hd,List.getElem_cons_zero]at hb;have hb':bt s 0=(b.toNat:Int):=hb;rw[hb']
  by_cases c:b=47
  ·rw[if_pos ((u47 b).2 c)];simp[tr,hd,c]
  ·rw[if_neg (fun h=>c ((u47 b).1 h))];simp[tr,hd,c]
theorem drop_at (s:ByteArray) (i:Nat) (h:i<s.size):s.data.toList.drop i=(s.data.toList[i]'(by rw[fb];exact h))::s.data.toList.drop (i+1):=List.drop_eq_getElem_cons _
theorem nH (s:ByteArray) (hs:s.size≤1048576):∀(n i f:Nat) (out:List ByteArray),1≤i→i≤s.size→f≤i→s.size-i=n→out.length≤30→
  Ev (fun k=>aH.l0 k s out f i) (tr s (proc out (gx ((s.data.toList.drop f).take (i-f)) (parts (s.data.toList.drop i))))):=by
 have hsz:s.data.toList.length=s.size:=fb s;intro n
 induction n with
 |zero=>
  intro i f out h1 hi hf hn ho
  obtain rfl:i=s.size:=by omega
  have hx:(s.extract f s.size)=nZ ((s.data.toList.drop f).take (s.size-f)):=by
   rw[←pQ (s.extract f s.size)]
   congr 1
   rw[Lib.extract_data]
  have hsl:(s.extract f s.size).size≤9223372036854775807:=by rw[ByteArray.size_extract];omega
  rw[List.drop_eq_nil_of_le (by omega:s.data.toList.length≤s.size)];have hnm:=kF (s.extract f s.size) hsl
  apply bb
  simp only[aH.l0];refine bx (by omega) (cH (by omega) ?_)
  apply bb
  simp only[aH.j1];refine cH (by simp) (bx (by omega) (bx (by omega) (bx (by omega) (bx (by omega) ?_))));simp only[Int.toNat_natCast];refine Ev.bind hnm ?_;rw[hx];simp only[parts,gx,List.append_nil,proc]
  by_cases c:fa (nZ ((s.data.toList.drop f).take (s.size-f)))=true
  ·refine bx c ?_;rw[if_pos c]
   by_cases d:out.length=30
   ·rw[if_pos d];exact bx (by omega) (Ev.now _)
   ·rw[if_neg d];refine cH (by omega) (bx (by omega) ?_)
    apply bb
    rw[lV (by omega) (by omega)];simp only[ob s _ _ _ _ (show¬((s.size:Int)+1)≤(s.size:Int) by omega)];exact Ev.now _
  ·rw[if_neg c];exact cH c (Ev.now _)
 |succ n ih=>
  intro i f out h1 hi hf hn ho
  have hlt:i<s.size:=by omega
  have hb:=tt s i hlt;have hd:=drop_at s i hlt;generalize hB:(s.data.toList[i]'(by rw[fb];exact hlt))=B at hb hd
  have hnx:wrap64 ((i:Int)+1)=((i+1:Nat):Int):=by rw[lV (by omega) (by omega)];omega
  have htk:(s.data.toList.drop f).take (i+1-f)=(s.data.toList.drop f).take (i-f)++[B]:=by
   rw[show i+1-f=(i-f)+1 by omega,List.take_succ_eq_append_getElem (by rw[List.length_drop];omega)]
   congr 2
   rw[List.getElem_drop];simp only[show f+(i-f)=i by omega];exact hB
  apply bb
  simp only[aH.l0];refine bx (by omega) (bx (by omega) (bx (by omega) ?_))
  apply bb
  simp only[aH.j1];rw[hb,hnx]
  by_cases c:B=47
  ·have hx:(s.extract f i)=nZ ((s.data.toList.drop f).take (i-f)):=by
    rw[←pQ (s.extract f i)]
    congr 1
    rw[Lib.extract_data]
   have hsl:(s.extract f i).size≤9223372036854775807:=by rw[ByteArray.size_extract];omega
   have hnm:=kF (s.extract f i) hsl;rw[hd,parts,if_pos c];refine cH (by simp[(u47 B).2 c]) (bx (by omega) (bx (by omega) (bx (by omega) (bx (by omega) ?_))));simp only[Int.toNat_natCast];refine Ev.bind hnm ?_;rw[hx];simp only[gx,List.append_nil,proc]
   by_cases cn:fa (nZ ((s.data.toList.drop f).take (i-f)))=true
   ·refine bx cn ?_;rw[if_pos cn]
    by_cases d:out.length=30
    ·rw[if_pos d];exact bx (by omega) (Ev.now _)
    ·rw[if_neg d];refine cH (by omega) (bx (by omega) ?_);have:=ih (i+1) (i+1) (out++[nZ ((s.data.toList.drop f).take (i-f))]) (by omega) (by omega) (Nat.le_refl _) (by omega) (by simp;omega);rw[Nat.sub_self,List.take_zero,nY _ (kj _)]at this;exact this
   ·rw[if_neg cn];exact cH cn (Ev.now _)
  ·rw[hd,parts,if_neg c,qB,←htk];refine bx (by simpa using fun h=>c ((u47 B).1 h)) ?_;exact ih (i+1) f out (by omega) (by omega) (by omega) (by omega) ho
theorem jd (s:ByteArray) (hs:s.size≤1048576):Ev (fun k=>aH.f k s) (cw s):=by
 have hsz:s.data.toList.length=s.size:=fb s;unfold aH.f cw;simp only[Option.bind_some];refine vq (fun _=>Ev.now _) (fun _=> ?_)
 cases hd:s.data.toList with
 |nil=>
  rw[hd]at hsz
  have h0:s.size=0:=by simpa using hsz.symm
  apply bb
  simp only[aH.l0];refine bx (by omega) (cH (by omega) ?_)
  apply bb
  simp only[aH.j1];refine cH (by simp) (cH (by omega) ?_)
  apply bb
  simp only[ob s _ _ _ _ (show¬(wrap64 (0+1))≤(s.size:Int) by rw[h0,lV (by omega) (by omega)];omega)];exact eZ (Ev.now _) (by simp[tr,hd,parts])
 |cons b l=>
  have hl:0<s.size:=by rw[←hsz,hd];simp
  have hb:=tt s 0 hl;simp only[hd,List.getElem_cons_zero]at hb;have hb':bt s 0=(b.toNat:Int):=hb
  apply bb
  simp only[aH.l0];refine bx (by omega) (bx (by omega) (bx (by omega) ?_))
  apply bb
  simp only[aH.j1];rw[hb',show wrap64 (0+1)=((1:Nat):Int)from lV (by omega) (by omega)]
  by_cases c:b=47
  ·refine cH (by simp[(u47 b).2 c]) (cH (by omega) ?_);have:=nH s hs (s.size-1) 1 1 [] (by omega) (by omega) (Nat.le_refl _) rfl (by simp);refine eZ this ?_;rw[Nat.sub_self,List.take_zero,nY _ (kj _),abI _ _ (by simp),hd,parts,if_pos c];simp only[List.drop_succ_cons,List.drop_zero,List.map_cons,List.length_nil,Nat.zero_add,List.nil_append]
   have hne:(parts l).map nZ≠[]:=by
    intro h;exact kj l (List.map_eq_nil_iff.1 h)
   have he:(nZ []).toList=[]:=by rw[toList_data,rJ]
   by_cases g:ej ((parts l).map nZ)=true
   ·have g':=g;simp only[ej,List.length_map,Bool.and_eq_true,decide_eq_true_eq]at g';rw[if_pos g',if_pos ⟨he,hne,g⟩];simp[tr,hd,c]
   ·have g':¬(((parts l).map nZ).all fa=true∧(parts l).length≤30):=by
     intro h;apply g;simp only[ej,List.length_map,Bool.and_eq_true,decide_eq_true_eq];exact h
    rw[if_neg g',if_neg (fun h=>g h.2.2)]
    rfl
  ·refine bx (by simpa using fun h=>c ((u47 b).1 h)) ?_;have:=nH s hs (s.size-1) 1 0 [] (by omega) (by omega) (by omega) rfl (by simp);refine eZ this ?_
   have hf:∀x,tr s x=([],false):=by
    intro x
    cases x with
    |none=>rfl
    |some out=>simp[tr,hd,c]
   rw[hf,parts,if_neg c]
   cases hX:parts l with
   |nil=>exact absurd hX (kj l)
   |cons p ps=>
    simp only[gx,List.map_cons];rw[if_neg];intro h;have:=h.1;rw[toList_data,rJ]at this;simp at this
end Go.Proofs.YtkfoopcpihmbmaaGreatDoor.Q
namespace Go.Proofs.YtkfoopcpihmbmaaGreatDoor.Q
open Go.RowKit Go.Proofs.YtkfoopcpihmbmaaGreatDoor.P Go.Proofs.ab.av Go.Proofs.ab.aQ Go.Proofs.ab.aT
theorem abJ (b:ByteArray):b++(⟨#[]⟩:ByteArray)=b:=ByteArray.ext (by rw[ByteArray.data_append];simp)
theorem abK (b:ByteArray):(⟨#[]⟩:ByteArray)++b=b:=ByteArray.ext (by rw[ByteArray.data_append];simp)
def lG:List ByteArray→ByteArray
 |[]=>⟨#[]⟩
 |x::l=>(⟨#[47]⟩++x)++lG l
theorem vX (l:List ByteArray):(lG l).size=l.length+iW l:=by
 induction l with
 |nil=>rfl
 |cons x l ih=>
  rw[lG,ByteArray.size_append,ByteArray.size_append,ih];have:(⟨#[47]⟩:ByteArray).size=1:=rfl;simp only[iW,List.map_cons,List.sum_cons,List.length_cons]at*
  omega
theorem vY (l:List (List UInt8)):iW (l.map nZ)=(l.map List.length).sum:=by
 unfold iW;rw[List.map_map];exact congrArg List.sum (List.map_congr_left fun x _=>uD x)
theorem xM (l:List UInt8):((parts l).map List.length).sum≤l.length:=by
 induction l with
 |nil=>simp[parts]
 |cons b l ih=>
  rw[parts]
  split
  ·simp;omega
  ·cases hX:parts l with
   |nil=>exact absurd hX (kj l)
   |cons q X=>rw[hX]at ih;simp[gx]at ih⊢;omega
theorem qC (s:ByteArray) (h:(cw s).2=true):ej (cw s).1=true:=by
 unfold cw at h⊢
 split
 ·rfl
 ·rename_i c0
  rw[if_neg c0]at h
  split
  ·rename_i hX;rw[hX]at h;simp at h
  ·rename_i x l hX
   rw[hX]at h;simp only at h⊢
   split
   ·rename_i c;exact c.2.2
   ·rename_i c;rw[if_neg c]at h;simp at h
theorem oc (s:ByteArray):(cw s).1.length≤s.size∧iW (cw s).1≤s.size:=by
 have h1:=qk s.data.toList;have h2:=xM s.data.toList;rw[fb]at h1 h2;unfold cw
 split
 ·simp[iW]
 ·split
  ·simp[iW]
  ·rename_i x l hX
   split
   ·cases hP:parts s.data.toList with
    |nil=>exact absurd hP (kj _)
    |cons p ps=>
     rw[hP]at hX h1 h2;simp only[List.map_cons,List.cons.injEq]at hX;obtain⟨_,rfl⟩:=hX;simp only[List.length_map,vY];simp only[List.map_cons,List.sum_cons,List.length_cons]at h1 h2
     omega
   ·simp[iW]
theorem vZ (l:List ByteArray) (n:Nat):iW (l.take n)≤iW l:=by
 induction l generalizing n with
 |nil=>simp
 |cons x l ih=>
  cases n with
  |zero=>simp[iW]
  |succ n=>have:=ih n;simp[iW]at this⊢;omega
def qD (l:List ByteArray):ByteArray:=if l.length=0 then⟨#[47]⟩else if ej l=true then lG l else⟨#[]⟩
theorem xN (q r:List UInt8) (h:∀b∈q,b≠47):parts (q++r)=gx q (parts r):=by
 induction q with
 |nil=>rw[List.nil_append,nY _ (kj _)]
 |cons b q ih=>
  rw[List.cons_append,parts,if_neg (h b (List.mem_cons_self ..)),ih (fun x hx=>h x (List.mem_cons_of_mem _ hx)),qB]
  rfl
theorem oJ (s:ByteArray) (h:fa s=true):(∀b∈s.data.toList,b≠47)∧1≤s.size∧s.size≤14:=by
 unfold fa ki at h;simp only[Bool.and_eq_true,decide_eq_true_eq]at h;refine⟨fun b hb e=> ?_,h.2.1.1⟩;have:=List.all_eq_true.1 h.1 (b.toNat:Int) (by unfold bytesOf;exact List.mem_map.2 ⟨b,hb,rfl⟩);subst e;exact absurd this (by decide)
theorem rK (x:ByteArray) (l:List ByteArray):(lG (x::l)).data.toList=47::(x.data.toList++(lG l).data.toList):=by
 simp[lG,ByteArray.data_append]
theorem v_ (l:List ByteArray) (h:l.all fa=true):parts (lG l).data.toList=[]::l.map (·.data.toList):=by
 induction l with
 |nil=>rfl
 |cons x l ih=>
  rw[List.all_cons,Bool.and_eq_true]at h;rw[rK,parts,if_pos rfl,xN _ _ (oJ x h.1).1,ih h.2];simp[gx]
theorem map_mk (l:List ByteArray):(l.map (·.data.toList)).map nZ=l:=by
 rw[List.map_map]
 conv=>rhs;rw[←List.map_id l]
 exact List.map_congr_left fun x _=>pQ x
theorem uE:cw ⟨#[47]⟩=([],true):=by
 unfold cw;rw[if_pos (by rw[toList_data])]
theorem tu (l:List ByteArray) (hg:ej l=true):(lG l).toList≠([47]:List UInt8):=by
 cases l with
 |nil=>rw[toList_data];simp[lG]
 |cons x l=>
  rw[toList_data,rK]
  have hx:fa x=true:=by
   unfold ej at hg;simp only[List.all_cons,Bool.and_eq_true]at hg;exact hg.1.1
  have:=(oJ x hx).2.1;intro e;simp only[List.cons.injEq,List.append_eq_nil_iff,true_and]at e;rw[←fb,e.1]at this;simp at this
theorem uF (l:List ByteArray) (hl:l≠[]) (hg:ej l=true):cw (lG l)=(l,true):=by
 have ha:l.all fa=true:=by unfold ej at hg;simp only[Bool.and_eq_true]at hg;exact hg.1
 unfold cw;rw[if_neg (tu l hg),v_ l ha,List.map_cons,map_mk];simp only;rw[if_pos ⟨by rw[toList_data,rJ],hl,hg⟩]
theorem uG (l:List ByteArray) (hg:ej l=true):cw (qD l)=(l,true):=by
 unfold qD
 by_cases c:l.length=0
 ·rw[if_pos c,uE,List.eq_nil_of_length_eq_zero c]
 ·rw[if_neg c,if_pos hg,uF l (fun h=>c (by rw[h];rfl)) hg]
theorem wa (l:List ByteArray) (hg:ej l=true):(qD l).size=max 1 (l.length+iW l):=by
 unfold qD
 by_cases c:l.length=0
 ·rw[if_pos c,List.eq_nil_of_length_eq_zero c];rfl
 ·rw[if_neg c,if_pos hg,vX];omega
end Go.Proofs.YtkfoopcpihmbmaaGreatDoor.Q
namespace Go.Proofs.YtkfoopcpihmbmaaGreatDoor.Q
open Go.RowKit Go.Proofs.YtkfoopcpihmbmaaGreatDoor.P Go.Proofs.ab.av Go.Proofs.ab.aQ Go.Proofs.ab.aT
def kP (T:List aW):List ByteArray→Int→Int×Int
 |[],ino=>(ino,0)
 |n::l,ino=>if dz T ino=true then(if(eg T ino).f1=2 then(if iC n (eg T ino).f4=0 then(0,2)else kP T l (iC n (eg T ino).f4))else(0,3))else(0,2)
def fv (T:List aW) (s:ByteArray):Int×Int:=if(cw s).2=true then kP T (cw s).1 1 else(0,1)
theorem uH {γ:Type}(L:Nat→Int→Int→Option γ) (xs:List ByteArray) (F:List ByteArray→Int→γ) (h1:∀ino,Ev (fun k=>L k ino (xs.length:Nat)) (F [] ino))
  (h2:∀(i:Nat) (hi:i<xs.length) (ino:Int),(∀adt,Ev (fun k=>L k adt ((i+1:Nat):Int)) (F (xs.drop (i+1)) adt))→Ev (fun k=>L k ino (i:Nat)) (F (xs[i]::xs.drop (i+1)) ino)) (ino:Int):Ev (fun k=>L k ino 0) (F xs ino):=by
 have key:∀m i:Nat,xs.length-i=m→i≤xs.length→∀ino,Ev (fun k=>L k ino (i:Nat)) (F (xs.drop i) ino):=by
  intro m
  induction m with
  |zero=>
   intro i hm hi ino
   obtain rfl:i=xs.length:=by omega
   rw[List.drop_length];exact h1 ino
  |succ m ih=>
   intro i hm hi ino;rw[List.drop_eq_getElem_cons (by omega)];exact h2 i (by omega) ino (ih (i+1) (by omega) (by omega))
 simpa using key xs.length 0 (by omega) (by omega) ino
theorem xO (T:List aW) (nx:Int) (s:ByteArray) (hT:T.length≤1048576) (hs:∀x∈T,fJ x) (h:s.size≤1048576):Ev (fun k=>fE.f k T nx s) (fv T s):=by
 unfold fE.f fv;refine Ev.bind (vW s h) ?_;have hl:=(oc s).1;generalize cw s=p at*;refine vq (fun _=> ?_) (fun _=>Ev.now _);refine uH (fun k ino i=>fE.l0 k ino p.1 p.1.length i T nx) p.1 (kP T) (fun ino=> ?_) (fun i hi ino ih=> ?_) 1
 ·apply bb
  simp only[fE.l0];exact cH (by omega) (Ev.now _)
 ·have hx:=jx T ino hs
  apply bb
  simp only[fE.l0,kP];rw[abG i p.1.length hi (by omega),rdS p.1 i hi];refine bx (by omega) (bx (by omega) (bx (by omega) (Ev.bind (pP T nx ino hT hs) ?_)));refine vq (fun _=>vq (fun _=> ?_) (fun _=>Ev.now _)) (fun _=>Ev.now _);refine Ev.bind (vT _ _ _ _ _ _ p.1[i] (by have:=hx.e;dsimp only;omega)) ?_;exact vq (fun _=>Ev.now _) (fun _=>ih _)
theorem ql (T:List aW) (nx:Int) (s:ByteArray) (hT:T.length≤1048576) (hs:∀x∈T,fJ x) (h:s.size≤1048576):Ev (fun k=>ix.f k T nx s) (fv T s):=by
 unfold ix.f fv;refine Ev.bind (jd s h) ?_;have hl:=(oc s).1;generalize cw s=p at*;refine vq (fun _=> ?_) (fun _=>Ev.now _);unfold cZ.f;refine Ev.bind (uH (fun k ino i=>cZ.l0 k p.1 ino i T nx) p.1 (kP T) (fun ino=> ?_) (fun i hi ino ih=> ?_) 1) (Ev.now _)
 ·apply bb
  simp only[cZ.l0];exact cH (by omega) (Ev.now _)
 ·have hx:=jx T ino hs;have hr:=jw ino T 0
  apply bb
  simp only[cZ.l0,kP];rw[abG i p.1.length hi (by omega),rdS p.1 i hi];refine bx (by omega) (Ev.bind (oI T nx ino hT) ?_)
  by_cases c:dd ino T 0<0
  ·have hn:¬dz T ino=true:=by simp only[dz,decide_eq_true_eq];omega
   rw[if_neg hn];exact bx c (Ev.now _)
  ·have hy:dz T ino=true:=by simp only[dz,decide_eq_true_eq];omega
   have hi':eg T ino=ai T (dd ino T 0):=by simp only[eg,if_neg c]
   rw[if_pos hy,hi'];rw[hi']at hx;refine cH c (bx (by omega) (bx (by omega) (vq (fun _=>bx (by omega) ?_) (fun _=>Ev.now _))));refine Ev.bind (rI _ _ _ _ _ _ p.1[i] (by have:=hx.e;omega)) ?_;exact vq (fun _=>Ev.now _) (fun _=>ih _)
end Go.Proofs.YtkfoopcpihmbmaaGreatDoor.Q
namespace Go.Proofs.YtkfoopcpihmbmaaGreatDoor.Q
open Go.RowKit Go.Proofs.YtkfoopcpihmbmaaGreatDoor.P Go.Proofs.ab.av Go.Proofs.ab.aQ Go.Proofs.ab.aT
def kG:aW:=⟨0,0,0,[],[],[]⟩
def cp (T:List aW) (s:ByteArray):aW×Int:=
 if(fv T s).2=0 then(if dz T (fv T s).1=true then(eg T (fv T s).1,0)else(kG,2))else(kG,(fv T s).2)
def sg (p:aW×Int):Int×Int×Int×List Int×List cD×List bj×Int:=(p.1.f0,p.1.f1,p.1.f2,p.1.f3,p.1.f4,p.1.f5,p.2)
theorem gm (T:List aW) (s:ByteArray) (hs:∀x∈T,fJ x):fJ (cp T s).1:=by
 unfold cp
 split
 ·split
  ·exact jx T _ hs
  ·exact⟨by simp[kG],by simp[kG],by simp[kG]⟩
 ·exact⟨by simp[kG],by simp[kG],by simp[kG]⟩
theorem sw (T:List aW) (nx:Int) (s:ByteArray) (hT:T.length≤1048576) (hs:∀x∈T,fJ x) (h:s.size≤1048576):Ev (fun k=>jh.f k T nx s) (sg (cp T s)):=by
 unfold jh.f;refine Ev.bind (xO T nx s hT hs h) ?_
 by_cases c:(fv T s).2=0
 ·refine bx c (Ev.bind (pP T nx _ hT hs) ?_)
  by_cases d:dz T (fv T s).1=true
  ·exact bx d (eZ (Ev.now _) (by simp only[cp,sg,if_pos c,if_pos d]))
  ·exact cH d (eZ (Ev.now _) (by simp only[cp,sg,if_pos c,if_neg d];rfl))
 ·exact cH c (eZ (Ev.now _) (by simp only[cp,sg,if_neg c];rfl))
theorem jk (T:List aW) (nx:Int) (s:ByteArray) (hT:T.length≤1048576) (hs:∀x∈T,fJ x) (h:s.size≤1048576):Ev (fun k=>eA.f k T nx s) (sg (cp T s)):=by
 unfold eA.f;refine Ev.bind (ql T nx s hT hs h) ?_
 by_cases c:(fv T s).2=0
 ·refine bx c (Ev.bind (ln T nx _ hT hs) ?_)
  by_cases d:dz T (fv T s).1=true
  ·exact bx d (eZ (Ev.now _) (by simp only[cp,sg,if_pos c,if_pos d]))
  ·exact cH d (eZ (Ev.now _) (by simp only[cp,sg,if_pos c,if_neg d];rfl))
 ·exact cH c (eZ (Ev.now _) (by simp only[cp,sg,if_neg c];rfl))
end Go.Proofs.YtkfoopcpihmbmaaGreatDoor.Q
namespace Go.Proofs.YtkfoopcpihmbmaaGreatDoor.Q
open Go.RowKit Go.Proofs.YtkfoopcpihmbmaaGreatDoor.P Go.Proofs.ab.av Go.Proofs.ab.aQ Go.Proofs.ab.aT
theorem aaX:∀(a b:List Int),a.Pairwise (·<·)→b.Pairwise (·<·)→(∀x,x∈a↔x∈b)→a=b
 |[],[],_,_,_=>rfl
 |[],y::b,_,_,h=>absurd ((h y).2 (List.mem_cons_self ..)) (by simp)
 |x::a,[],_,_,h=>absurd ((h x).1 (List.mem_cons_self ..)) (by simp)
 |x::a,y::b,ha,hb,h=>by
  obtain⟨ha1,ha2⟩:=List.pairwise_cons.1 ha;obtain⟨hb1,hb2⟩:=List.pairwise_cons.1 hb
  have hxy:x=y:=by
   rcases List.mem_cons.1 ((h x).1 (List.mem_cons_self ..))with h1|h1
   ·exact h1
   ·rcases List.mem_cons.1 ((h y).2 (List.mem_cons_self ..))with h2|h2
    ·exact h2.symm
    ·have:=hb1 x h1;have:=ha1 y h2;omega
  subst hxy;rw[aaX a b ha2 hb2 (fun z=> ?_)]
  constructor
  ·intro hz;rcases List.mem_cons.1 ((h z).1 (List.mem_cons_of_mem _ hz))with rfl|h1
   ·have:=ha1 z hz;omega
   ·exact h1
  ·intro hz;rcases List.mem_cons.1 ((h z).2 (List.mem_cons_of_mem _ hz))with rfl|h1
   ·have:=hb1 z hz;omega
   ·exact h1
def tN (xs:List Int) (n:Int):Nat→Nat
 |0=>0
 |k+1=>if xs.getD k 0>n then tN xs n k else k+1
def rL (xs:List Int) (n:Int):List Int:=if n∈xs then xs else xs.take (tN xs n xs.length)++[n]++xs.drop (tN xs n xs.length)
theorem aaY (xs:List Int) (n:Int):∀k,tN xs n k≤k
 |0=>Nat.le_refl _
 |k+1=>by rw[tN];split;exact Nat.le_succ_of_le (aaY xs n k);exact Nat.le_refl _
theorem uI (xs:List Int) (n x:Int):x∈rL xs n↔x∈xs∨x=n:=by
 unfold rL
 split
 ·constructor
  ·exact .inl
  ·rintro(h|rfl)<;>assumption
 ·rw[List.mem_append,List.mem_append,List.mem_singleton]
  conv=>rhs;rw[←List.take_append_drop (tN xs n xs.length) xs,List.mem_append]
  constructor
  ·rintro((h|h)|h)
   ·exact .inl (.inl h)
   ·exact .inr h
   ·exact .inl (.inr h)
  ·rintro((h|h)|h)
   ·exact .inl (.inl h)
   ·exact .inr h
   ·exact .inl (.inr h)
theorem aaZ (xs:List Int) (n:Int):∀k,k≤xs.length→∀j,tN xs n k≤j→j<k→xs.getD j 0>n
 |0,_,j,_,h=>by omega
 |k+1,hk,j,h1,h2=>by
  rw[tN]at h1
  split at h1
  ·rcases Nat.lt_or_ge j k with h|h
   ·exact aaZ xs n k (by omega) j h1 h
   ·obtain rfl:j=k:=by omega
    assumption
  ·omega
theorem aa0 (xs:List Int) (n:Int):∀k,0<tN xs n k→¬xs.getD (tN xs n k-1) 0>n
 |0,h=>by simp[tN]at h
 |k+1,h=>by
  rw[tN]at h⊢
  split
  ·rename_i hc;rw[if_pos hc]at h;exact aa0 xs n k h
  ·rename_i hc;simpa using hc
theorem wZ (xs:List Int) (n:Int) (h:xs.Pairwise (·<·)):(rL xs n).Pairwise (·<·):=by
 unfold rL
 split
 ·exact h
 ·rename_i hn
  have hle:=aaY xs n xs.length;have hgt:=aaZ xs n xs.length (Nat.le_refl _);have hat:=aa0 xs n xs.length;generalize tN xs n xs.length=j at hle hgt hat;have hp:=List.pairwise_iff_getElem.1 h
  have h1:∀a∈xs.take j,a<n:=fun a ha=>by
   obtain⟨i,hi,rfl⟩:=List.getElem_of_mem ha;rw[List.length_take]at hi;rw[List.getElem_take];have hj:=hat (by omega);rw[List.getD_eq_getElem?_getD,List.getElem?_eq_getElem (by omega),Option.getD_some]at hj
   have hne:xs[j-1]≠n:=fun e=>hn (e▸List.getElem_mem _)
   rcases Nat.lt_or_ge i (j-1)with hl|hg
   ·have:=hp i (j-1) (by omega) (by omega) hl;omega
   ·obtain rfl:i=j-1:=by omega
    omega
  have h2:∀b∈xs.drop j,n<b:=fun b hb=>by
   obtain⟨i,hi,rfl⟩:=List.getElem_of_mem hb;rw[List.length_drop]at hi;rw[List.getElem_drop];have:=hgt (j+i) (by omega) (by omega);rw[List.getD_eq_getElem?_getD,List.getElem?_eq_getElem (by omega),Option.getD_some]at this;exact this
  rw[List.pairwise_append,List.pairwise_append];refine⟨⟨h.sublist (List.take_sublist ..),List.pairwise_singleton ..,fun a ha b hb=>by rw[List.mem_singleton.1 hb];exact h1 a ha⟩,h.sublist (List.drop_sublist ..),fun a ha b hb=> ?_⟩;rcases List.mem_append.1 ha with ha|ha
  ·have:=h1 a ha;have:=h2 b hb;omega
  ·rw[List.mem_singleton.1 ha];exact h2 b hb
end Go.Proofs.YtkfoopcpihmbmaaGreatDoor.Q
namespace Go.Proofs.YtkfoopcpihmbmaaGreatDoor.Q
open Go.RowKit Go.Proofs.YtkfoopcpihmbmaaGreatDoor.P Go.Proofs.ab.av Go.Proofs.ab.aQ Go.Proofs.ab.aT
theorem lu:∀(xs U:List Int),xs.Nodup→(∀x∈xs,x∈U)→xs.length≤U.length
 |[],_,_,_=>Nat.zero_le _
 |x::xs,U,h,hs=>by
  obtain⟨h1,h2⟩:=List.nodup_cons.1 h;have hx:=hs x (List.mem_cons_self ..);have:=lu xs (U.erase x) h2 (fun y hy=>(List.mem_erase_of_ne (fun(e:y=x)=>h1 (e▸hy))).2 (hs y (List.mem_cons_of_mem _ hy)));rw[List.length_erase_of_mem hx]at this;have:=List.length_pos_of_mem hx;simp only[List.length_cons]
  omega
theorem oK (xs U:List Int) (h:xs.Nodup) (hs:∀x∈xs,x∈U) (hl:U.length≤xs.length):∀y∈U,y∈xs:=fun y hy=>by
 apply Classical.byContradiction
 intro hn
 have:=lu (y::xs) U (List.nodup_cons.2 ⟨hn,h⟩) (fun z hz=>by
  rcases List.mem_cons.1 hz with rfl|hz
  ·exact hy
  ·exact hs z hz)
 simp only[List.length_cons]at this
 omega
theorem lH {l:List Int}(h:l.Pairwise (·<·)):l.Nodup:=h.imp (fun h e=>by omega)
section
variable (ex:Int→Bool) (kids:Int→List Int)
def nA (out es:List Int):List Int:=es.foldl (fun o e=>if ex e=true then rL o e else o) out
def nI (xs:List Int):List Int:=nA ex xs (xs.flatMap kids)
def qX:Nat→List Int→List Int
 |0,xs=>xs
 |n+1,xs=>qX n (nI ex kids xs)
def ab_ (xs:List Int):Prop:=∀x∈xs,∀y∈kids x,ex y=true→y∈xs
theorem uJ (es:List Int):∀(out:List Int) (x:Int),x∈nA ex out es↔x∈out∨(x∈es∧ex x=true):=by
 induction es with
 |nil=>intro out x;simp[nA]
 |cons e es ih=>
  intro out x
  show x∈nA ex (if ex e=true then rL out e else out) es↔_
  rw[ih]
  by_cases c:ex e=true
  ·rw[if_pos c,uI,List.mem_cons]
   constructor
   ·rintro((h|rfl)|⟨h,k⟩)
    ·exact .inl h
    ·exact .inr ⟨.inl rfl,c⟩
    ·exact .inr ⟨.inr h,k⟩
   ·rintro(h|⟨rfl|h,k⟩)
    ·exact .inl (.inl h)
    ·exact .inl (.inr rfl)
    ·exact .inr ⟨h,k⟩
  ·rw[if_neg c,List.mem_cons]
   constructor
   ·rintro(h|⟨h,k⟩)
    ·exact .inl h
    ·exact .inr ⟨.inr h,k⟩
   ·rintro(h|⟨rfl|h,k⟩)
    ·exact .inl h
    ·exact absurd k c
    ·exact .inr ⟨h,k⟩
theorem qY (es:List Int):∀(out:List Int),out.Pairwise (·<·)→(nA ex out es).Pairwise (·<·):=by
 induction es with
 |nil=>intro out h;exact h
 |cons e es ih=>
  intro out h
  show(nA ex (if ex e=true then rL out e else out) es).Pairwise (·<·)
  refine ih _ ?_
  split
  ·exact wZ out e h
  ·exact h
theorem iR (xs:List Int) (y:Int):y∈nI ex kids xs↔y∈xs∨((∃x∈xs,y∈kids x)∧ex y=true):=by
 unfold nI;rw[uJ,List.mem_flatMap]
theorem tv:∀n (xs:List Int),xs.Pairwise (·<·)→(qX ex kids n xs).Pairwise (·<·)
 |0,_,h=>h
 |n+1,xs,h=>tv n _ (qY ex _ _ h)
theorem w_:∀n (xs:List Int),∀x∈xs,x∈qX ex kids n xs
 |0,_,_,h=>h
 |n+1,xs,x,h=>w_ n _ x ((iR ex kids xs x).2 (.inl h))
theorem tw (K:List Int) (hK:ab_ ex kids K):∀n (xs:List Int),(∀x∈xs,x∈K)→∀x∈qX ex kids n xs,x∈K
 |0,_,h=>h
 |n+1,xs,h=>tw K hK n _ (fun x hx=>by
  rcases(iR ex kids xs x).1 hx with hx|⟨⟨z,hz,hk⟩,he⟩
  ·exact h x hx
  ·exact hK z (h z hz) x hk he)
theorem xa (xs:List Int) (h:nI ex kids xs=xs):∀n,qX ex kids n xs=xs
 |0=>rfl
 |n+1=>by rw[qX,h];exact xa xs h n
theorem uK (U:List Int) (hU:∀y,ex y=true→y∈U):∀n (xs:List Int),xs.Pairwise (·<·)→(∀x∈xs,x∈U)→U.length≤xs.length+n→ab_ ex kids (qX ex kids n xs)
 |0,xs,h,hs,hl=>fun x _ y _ he=>oK xs U (lH h) hs hl y (hU y he)
 |n+1,xs,h,hs,hl=>by
  by_cases c:nI ex kids xs=xs
  ·rw[xa ex kids xs c];intro x hx y hy he;rw[←c];exact(iR ex kids xs y).2 (.inr ⟨⟨x,hx,hy⟩,he⟩)
  ·refine uK U hU n _ (qY ex _ _ h) (fun x hx=> ?_) ?_
   ·rcases(iR ex kids xs x).1 hx with hx|⟨_,he⟩
    ·exact hs x hx
    ·exact hU x he
   ·have:xs.length<(nI ex kids xs).length:=by
     apply Classical.byContradiction
     intro hn;refine c (aaX _ _ (qY ex _ _ h) h (fun x=>⟨fun hx=> ?_,fun hx=>(iR ex kids xs x).2 (.inl hx)⟩));exact oK xs (nI ex kids xs) (lH h) (fun y hy=>(iR ex kids xs y).2 (.inl hy)) (by omega) x hx
    omega
end
end Go.Proofs.YtkfoopcpihmbmaaGreatDoor.Q
namespace Go.Proofs.YtkfoopcpihmbmaaGreatDoor.Q
open Go.RowKit Go.Proofs.YtkfoopcpihmbmaaGreatDoor.P Go.Proofs.ab.av Go.Proofs.ab.aQ Go.Proofs.ab.aT
theorem rdI (xs:List Int) (i:Nat) (h:i<xs.length):rd xs (i:Int)=xs[i]:=by
 simp[rd,List.getD_eq_getElem?_getD,List.getElem?_eq_getElem h]
theorem aa1 (xs:List Int) (n:Int) (hl:xs.length≤9223372036854775807):Ev (fun k=>eL.f k xs n) (decide (n∈xs)):=by
 have key:=down (n:=xs.length) (P:=fun i=>Ev (fun k=>eL.l0 k xs n (i:Nat)) (decide (n∈xs.drop i))) (by
   apply bb
   simp only[eL.l0,List.drop_length]
   exact cH (by omega) (eZ (Ev.now _) (by simp))) (fun i hi h=>by
   apply bb
   simp only[eL.l0,rdI xs i hi];rw[qa i xs.length hi hl,List.drop_eq_getElem_cons hi];refine bx (by omega) (bx (by omega) ?_)
   by_cases c:xs[i]=n
   ·exact bx c (eZ (Ev.now _) (by simp[c]))
   ·exact cH c (eZ h (decide_eq_decide.2 ⟨fun h=>List.mem_cons_of_mem _ h,fun h=>(List.mem_cons.1 h).resolve_left (fun e=>c e.symm)⟩)))
 simpa [eL.f]using key
theorem wb (xs:List Int) (n:Int) (hl:xs.length≤17592186044415):∀(j:Nat),j≤xs.length→∀c:Int,Ev (fun k=>di.l0 k n (xs.take j++[c]++xs.drop j) (j:Nat)) (xs.take (tN xs n j)++[n]++xs.drop (tN xs n j)):=by
 have hset:∀(j:Nat) (c m:Int),j≤xs.length→(xs.take j++[c]++xs.drop j).set j m=xs.take j++[m]++xs.drop j:=fun j c m hj=>by
  have ht:(xs.take j).length=j:=by rw[List.length_take];omega
  rw[List.append_assoc,List.set_append_right _ _ (by omega),ht,Nat.sub_self,List.append_assoc];rfl
 have hlen:∀(j:Nat) (c:Int),j≤xs.length→(xs.take j++[c]++xs.drop j).length=xs.length+1:=fun j c hj=>by
  simp only[List.length_append,List.length_take,List.length_drop,List.length_singleton];omega
 intro j
 induction j with
 |zero=>
  intro hj c
  apply bb
  simp only[di.l0,hlen 0 c hj,Int.toNat_natCast,hset 0 c n hj,tN];exact cH (by omega) (bx (by omega) (bx (by omega) (Ev.now _)))
 |succ j ih=>
  intro hj c
  have hw:wrap64 (((j+1:Nat):Int)-1)=(j:Nat):=by rw[show((j+1:Nat):Int)-1=(j:Nat) by omega];exact lV (by omega) (by omega)
  have hr:rd (xs.take (j+1)++[c]++xs.drop (j+1)) (j:Nat)=xs[j]:=by
   rw[rdI _ j (by rw[hlen _ _ hj];omega)];rw[List.getElem_append_left (by simp only[List.length_append,List.length_take,List.length_singleton];omega),List.getElem_append_left (by rw[List.length_take];omega),List.getElem_take]
  apply bb
  simp only[di.l0,hw,hr,hlen _ c hj,Int.toNat_natCast,hset (j+1) c _ hj];refine bx (by omega) (bx (by omega) (bx (by omega) ?_))
  have hg:xs.getD j 0=xs[j]:=by rw[List.getD_eq_getElem?_getD,List.getElem?_eq_getElem (by omega)];rfl
  by_cases cc:xs[j]>n
  ·refine bx cc (bx (by omega) (bx (by omega) ?_))
   have e:xs.take (j+1)++[xs[j]]++xs.drop (j+1)=xs.take j++[xs[j]]++xs.drop j:=by
    rw[List.take_succ_eq_append_getElem (by omega),List.append_assoc,List.append_assoc,List.append_assoc,List.drop_eq_getElem_cons (i:=j) (by omega)];rfl
   rw[e,tN,if_pos (by rw[hg];exact cc)];exact ih (by omega) _
  ·refine cH cc (bx (by omega) (bx (by omega) (eZ (Ev.now _) ?_)));rw[tN,if_neg (by rw[hg];exact cc)]
theorem aa2 (xs:List Int) (n:Int) (hl:xs.length≤17592186044414):Ev (fun k=>di.f k xs n) (rL xs n):=by
 unfold di.f;refine Ev.bind (aa1 xs n (by omega)) ?_
 by_cases c:n∈xs
 ·refine bx (by simp[c]) (eZ (Ev.now _) ?_);unfold rL;rw[if_pos c]
 ·refine cH (by simp[c]) ?_;simp only[Option.bind_some,List.nil_append,List.length_nil];refine bx (by omega) (bx (by omega) ?_);have h:=wb xs n (by omega) xs.length (Nat.le_refl _) n;rw[List.take_length,List.drop_length,List.append_nil]at h
  have hw:wrap64 (((xs++[n]).length:Int)-1)=(xs.length:Nat):=by
   rw[List.length_append,List.length_singleton,show((xs.length+1:Nat):Int)-1=(xs.length:Nat) by omega];exact lV (by omega) (by omega)
  rw[hw];refine eZ h ?_;unfold rL;rw[if_neg c]
end Go.Proofs.YtkfoopcpihmbmaaGreatDoor.Q
namespace Go.Proofs.YtkfoopcpihmbmaaGreatDoor.Q
open Go.RowKit Go.Proofs.YtkfoopcpihmbmaaGreatDoor.P Go.Proofs.ab.av Go.Proofs.ab.aQ Go.Proofs.ab.aT
def eJ (l:List aW) (n:Int):List Int:=if dz l n=true∧(eg l n).f1=2 then(eg l n).f4.map (·.f1)else []
theorem lI (l:List aW) (n:Int) (h:dz l n=true):n∈l.map (·.f0):=by
 apply Classical.byContradiction
 intro hn;have:=uo n l 0 (fun x hx e=>hn (List.mem_map.2 ⟨x,hx,e⟩));unfold dz at h;rw[this]at h;simp at h
structure pR (l:List aW) (xs:List Int):Prop where
 lt:xs.Pairwise (·<·)
 ex:∀x∈xs,dz l x=true
theorem pR.len {l:List aW}{xs:List Int}(h:pR l xs):xs.length≤l.length:=by
 have:=lu xs (l.map (·.f0)) (lH h.lt) (fun x hx=>lI l x (h.ex x hx))
 rwa [List.length_map]at this
theorem pR.put {l:List aW}{xs:List Int}(h:pR l xs) (n:Int) (hn:dz l n=true):pR l (rL xs n):=
 ⟨wZ xs n h.lt,fun x hx=>by rcases(uI xs n x).1 hx with hx|rfl;exact h.ex x hx;exact hn⟩
theorem xP (l:List aW) (nx:Int) (xs:List Int) (i:Int) (x:aW) (R:List Int) (hl:l.length≤1048576) (he:x.f4.length≤1048576) (hk:x.f1=2)
  (fin:List Int) (hfin:Ev (fun k=>aJ.l0 k xs fin (wrap64 (i+1)) l nx) R):
  ∀(m:Nat),m≤x.f4.length→∀out,pR l out→nA (dz l) out ((x.f4.drop (x.f4.length-m)).map (·.f1))=fin→Ev (fun k=>aJ.l1 k xs out i true ((x.f4.length-m:Nat):Int) l nx x.f0 x.f1 x.f2 x.f3 x.f4 x.f5) R:=by
 intro m
 induction m with
 |zero=>
  intro _ out ho hf;rw[Nat.sub_zero,List.drop_length]at hf;have hf':out=fin:=hf;subst hf'
  apply bb
  simp only[aJ.l1,Nat.sub_zero];refine cH (by omega) ?_
  apply bb
  simp only[aJ.j2];exact cH (by decide) hfin
 |succ m ih=>
  intro hm out ho hf
  have hj:x.f4.length-(m+1)<x.f4.length:=by omega
  have hrd:aA x.f4 ((x.f4.length-(m+1):Nat):Int)=x.f4[x.f4.length-(m+1)]:=getD_at x.f4 _ _ hj;rw[List.drop_eq_getElem_cons hj,show x.f4.length-(m+1)+1=x.f4.length-m by omega]at hf
  apply bb
  simp only[aJ.l1];refine bx (by omega) (bx trivial ?_)
  apply bb
  simp only[aJ.j2,hrd];rw[qa _ x.f4.length hj (by omega),show x.f4.length-(m+1)+1=x.f4.length-m by omega];refine bx (by simp[hk]) (bx (by omega) (bx (by omega) (Ev.bind (oI l nx _ hl) ?_)))
  by_cases c:0≤dd x.f4[x.f4.length-(m+1)].f1 l 0
  ·have hx:dz l x.f4[x.f4.length-(m+1)].f1=true:=decide_eq_true c;have hlen:=ho.len;refine bx c (Ev.bind (aa2 out _ (by omega)) (ih (by omega) _ (ho.put _ hx) ?_));rw[←hf];simp only[nA,List.map_cons,List.foldl_cons,if_pos hx]
  ·have hx:¬dz l x.f4[x.f4.length-(m+1)].f1=true:=by unfold dz;simpa using c
   refine cH c (ih (by omega) _ ho ?_);rw[←hf];simp only[nA,List.map_cons,List.foldl_cons,if_neg hx]
theorem xQ (l:List aW) (nx:Int) (xs:List Int) (i:Int) (x:aW) (ok:Bool) (R out:List Int) (hno:¬(ok=true∧x.f1=2)) (hfin:Ev (fun k=>aJ.l0 k xs out (wrap64 (i+1)) l nx) R):
  Ev (fun k=>aJ.l1 k xs out i ok 0 l nx x.f0 x.f1 x.f2 x.f3 x.f4 x.f5) R:=by
 apply bb
 simp only[aJ.l1];refine vO (fun _=>vO (fun hk=> ?_) (fun _=> ?_)) (fun _=> ?_)
 ·apply bb
  simp only[aJ.j2];exact cH (by have:x.f1≠2:=fun e=>hno ⟨hk,e⟩;simpa using this) hfin
 ·apply bb
  simp only[aJ.j2];exact cH (by decide) hfin
 ·apply bb
  simp only[aJ.j2];exact cH (by decide) hfin
theorem uL (ex:Int→Bool) (out a b:List Int):nA ex out (a++b)=nA ex (nA ex out a) b:=List.foldl_append
theorem pR.add {l:List aW}{out:List Int}(h:pR l out) (es:List Int):pR l (nA (dz l) out es):=
 ⟨qY _ _ _ h.lt,fun x hx=>by rcases(uJ (dz l) es out x).1 hx with hx|⟨_,hx⟩;exact h.ex x hx;exact hx⟩
theorem xR (l:List aW) (nx:Int) (xs:List Int) (hl:l.length≤1048576) (hs:∀x∈l,fJ x) (hx:pR l xs):Ev (fun k=>aJ.f k l nx xs) (nI (dz l) (eJ l) xs):=by
 have hlen:=hx.len
 have key:=down (n:=xs.length) (P:=fun i=>Ev (fun k=>aJ.l0 k xs (nA (dz l) xs ((xs.take i).flatMap (eJ l))) (i:Nat) l nx) (nI (dz l) (eJ l) xs)) (by
   apply bb
   simp only[aJ.l0,List.take_length]
   exact cH (by omega) (Ev.now _)) (fun i hi h=>by
   have hrd:=rdI xs i hi
   have hst:nA (dz l) xs ((xs.take (i+1)).flatMap (eJ l))=nA (dz l) (nA (dz l) xs ((xs.take i).flatMap (eJ l))) (eJ l xs[i]):=by
    rw[List.take_succ_eq_append_getElem hi,List.flatMap_append,uL];simp
   rw[hst]at h;have ho:=hx.add ((xs.take i).flatMap (eJ l));generalize nA (dz l) xs ((xs.take i).flatMap (eJ l))=out at h ho⊢
   apply bb
   simp only[aJ.l0,hrd];refine bx (by omega) (bx (by omega) (Ev.bind (ln l nx xs[i] hl hs) ?_));have hsm:=jx l xs[i] hs;rw[←qa i xs.length hi (by omega)]at h;dsimp only
   by_cases c:dz l xs[i]=true∧(eg l xs[i]).f1=2
   ·have hk:eJ l xs[i]=(eg l xs[i]).f4.map (·.f1):=if_pos c;rw[hk]at h;have:=xP l nx xs i (eg l xs[i]) _ hl hsm.e c.2 _ h _ (Nat.le_refl _) out ho (by rw[Nat.sub_self,List.drop_zero]);rw[Nat.sub_self]at this;rw[c.1];exact this
   ·have hk:eJ l xs[i]=[]:=if_neg c;rw[hk]at h
    exact xQ l nx xs i (eg l xs[i]) _ _ out c h)
 simpa [aJ.f,nA]using key
theorem pR.next {l:List aW}{xs:List Int}(h:pR l xs):pR l (nI (dz l) (eJ l) xs):=h.add _
theorem tx (l:List aW) (nx:Int) (hl:l.length≤1048576) (hs:∀x∈l,fJ x):Ev (fun k=>dx.f k l nx) (if dz l 1=true then qX (dz l) (eJ l) l.length [1]else []):=by
 unfold dx.f;simp only[Option.bind_some];refine Ev.bind (oI l nx 1 hl) ?_
 by_cases c:dd 1 l 0<0
 ·have:¬dz l 1=true:=by unfold dz;simp;omega
  exact bx c (eZ (Ev.now _) (by rw[if_neg this]))
 ·have h1:dz l 1=true:=decide_eq_true (by omega);rw[if_pos h1];refine cH c (bx (by simp) ?_)
  have key:∀(m:Nat),m≤l.length→∀xs,pR l xs→Ev (fun k=>dx.l0 k xs ((l.length-m:Nat):Int) l nx) (qX (dz l) (eJ l) m xs):=by
   intro m
   induction m with
   |zero=>
    intro _ xs _
    apply bb
    simp only[dx.l0];exact cH (by omega) (Ev.now _)
   |succ m ih=>
    intro hm xs hx
    apply bb
    simp only[dx.l0];refine bx (by omega) (Ev.bind (xR l nx xs hl hs hx) ?_);rw[qa _ l.length (by omega) (by omega),show l.length-(m+1)+1=l.length-m by omega];exact ih (by omega) _ hx.next
  have:=key l.length (Nat.le_refl _) [1] ⟨List.pairwise_singleton ..,fun x hx=>by rw[List.mem_singleton.1 hx];exact h1⟩;rw[Nat.sub_self]at this;exact this
end Go.Proofs.YtkfoopcpihmbmaaGreatDoor.Q
namespace Go.Proofs.YtkfoopcpihmbmaaGreatDoor.Q
open Go.RowKit Go.Proofs.YtkfoopcpihmbmaaGreatDoor.P Go.Proofs.ab.av Go.Proofs.ab.aQ Go.Proofs.ab.aT
end Go.Proofs.YtkfoopcpihmbmaaGreatDoor.Q
namespace Go.Proofs.YtkfoopcpihmbmaaGreatDoor.Q
open Go.RowKit Go.Proofs.YtkfoopcpihmbmaaGreatDoor.P Go.Proofs.ab.av Go.Proofs.ab.aQ Go.Proofs.ab.aT
theorem we (n:Int) (l:List aW) (h:∀x∈l,x.f4.length≤1048576):eW n l≤l.length*1048576:=by
 induction l with
 |nil=>simp[eW]
 |cons x m ih=>
  have e:fj n x≤1048576:=by
   have:=h x (List.mem_cons_self ..);unfold fj
   split
   ·have:=List.length_filter_le (fun y:cD=>decide (y.f1=n)) x.f4;unfold gh;omega
   ·omega
  have:=ih (fun y hy=>h y (List.mem_cons_of_mem _ hy));simp only[eW,List.map_cons,List.sum_cons,List.length_cons]at this⊢
  omega
def nB (l:List aW) (e:List cD):Bool:=e.all fun x=>dz l x.f1
def qE (l xs:List aW):Bool:=xs.all fun x=>decide (x.f2=(eW x.f0 l:Int))&&nB l x.f4
def pn (l:List aW):List Int:=if dz l 1=true then qX (dz l) (eJ l) l.length [1]else []
def fx (l:List aW) (nx:Int):Bool:=nG l nx&&(decide ((pn l).length=l.length)&&qE l l)
theorem wg (l:List aW) (i:Nat) (hi:i<l.length):qE l (l.drop i)=(decide (l[i].f2=(eW l[i].f0 l:Int))&&nB l l[i].f4&&qE l (l.drop (i+1))):=by
 unfold qE;rw[List.drop_eq_getElem_cons hi,List.all_cons]
theorem uM (l:List aW) (e:List cD) (j:Nat) (hj:j<e.length):nB l (e.drop j)=(dz l e[j].f1&&nB l (e.drop (j+1))):=by
 unfold nB;rw[List.drop_eq_getElem_cons hj,List.all_cons]
theorem rM (l:List aW) (nx i:Int) (x:aW) (Z:Bool) (hl:l.length≤1048576) (he:x.f4.length≤1048576) (hfin:Ev (fun k=>aw.l0 k (wrap64 (i+1)) l nx) Z):
  Ev (fun k=>aw.l1 k i 0 l nx x.f0 x.f1 x.f2 x.f3 x.f4 x.f5) (nB l x.f4&&Z):=by
 have key:=down (n:=x.f4.length) (P:=fun j=>Ev (fun k=>aw.l1 k i (j:Nat) l nx x.f0 x.f1 x.f2 x.f3 x.f4 x.f5) (nB l (x.f4.drop j)&&Z)) (by
   apply bb
   simp only[aw.l1,List.drop_length]
   exact cH (by omega) hfin) (fun j hj h=>by
   have hrd:aA x.f4 (j:Int)=x.f4[j]:=getD_at x.f4 _ j hj
   apply bb
   simp only[aw.l1,hrd];rw[qa j x.f4.length hj (by omega),uM l x.f4 j hj];refine bx (by omega) (bx (by omega) (Ev.bind (oI l nx _ hl) ?_))
   by_cases c:dd x.f4[j].f1 l 0<0
   ·refine bx c (eZ (Ev.now _) ?_);unfold dz;rw[decide_eq_false (by omega)];rfl
   ·refine cH c (eZ h ?_)
    unfold dz;rw[decide_eq_true (by omega)];rfl)
 simpa using key
theorem rN (l:List aW) (nx:Int) (hl:l.length≤1048576) (hs:∀x∈l,x.f4.length≤1048576):Ev (fun k=>aw.l0 k 0 l nx) (qE l l):=by
 have key:=down (n:=l.length) (P:=fun i=>Ev (fun k=>aw.l0 k (i:Nat) l nx) (qE l (l.drop i))) (by
   apply bb
   simp only[aw.l0,List.drop_length]
   exact cH (by omega) (Ev.now _)) (fun i hi h=>by
   have hrd:ai l (i:Int)=l[i]:=getD_at l _ i hi;have hx:=hs _ (List.getElem_mem hi);have hu:=we l[i].f0 l hs;have hu2:l.length*1048576≤1048576*1048576:=Nat.mul_le_mul_right _ hl;rw[←qa i l.length hi (by omega)]at h
   apply bb
   simp only[aw.l0,hrd];rw[wg l i hi];refine bx (by omega) (bx (by omega) (Ev.bind (vS l nx _ hl hs (by omega)) ?_))
   by_cases c:((eW l[i].f0 l:Nat):Int)=l[i].f2
   ·refine bx c (eZ (rM l nx i l[i] _ hl hx h) ?_);rw[decide_eq_true c.symm,Bool.true_and]
   ·refine cH c (eZ (Ev.now _) ?_)
    rw[decide_eq_false (fun e=>c e.symm)];rfl)
 simpa using key
theorem gn (l:List aW) (nx:Int) (hl:l.length≤1048576) (hs:∀x∈l,iy x):Ev (fun k=>aw.f k l nx) (fx l nx):=by
 have hA:∀x∈l,fJ x:=fun x hx=>⟨(hs x hx).d,(hs x hx).e,(hs x hx).t⟩
 unfold aw.f fx;refine Ev.bind (vR l nx hl hs) ?_
 by_cases c1:nG l nx=true
 ·refine bx c1 (Ev.bind (tx l nx hl hA) ?_);rw[c1,Bool.true_and]
  change Ev (fun k=>aw.j0 k (((pn l).length:Int) !=(l.length:Int)) l nx) _
  apply bb
  simp only[aw.j0]
  by_cases c2:(pn l).length=l.length
  ·refine cH (by simp[c2]) (eZ (rN l nx hl (fun x hx=>(hs x hx).e)) ?_);rw[decide_eq_true c2,Bool.true_and]
  ·refine bx (by simp;omega) (eZ (Ev.now _) ?_);rw[decide_eq_false c2];rfl
 ·refine cH c1 ?_
  apply bb
  simp only[aw.j0];refine bx trivial (eZ (Ev.now _) ?_);rw[show nG l nx=false by simpa using c1];rfl
end Go.Proofs.YtkfoopcpihmbmaaGreatDoor.Q
namespace Go.Proofs.YtkfoopcpihmbmaaGreatDoor.Q
open Go.RowKit Go.Proofs.YtkfoopcpihmbmaaGreatDoor.P Go.Proofs.ab.av Go.Proofs.ab.aQ Go.Proofs.ab.aT
theorem sA (l:List aW) (nx ino:Int) (hl:l.length≤1048576) (hs:∀x∈l,fJ x):Ev (fun k=>cd.f k l nx ino) (mv ino l,nx):=by
 have key:=down (n:=l.length) (P:=fun i=>Ev (fun k=>cd.l0 k ino (i:Nat) l nx (mv ino (l.take i)) nx) (mv ino l,nx)) (by
   apply bb
   simp only[cd.l0,List.take_length]
   exact cH (by omega) (Ev.now _)) (fun i hi h=>by
   have hrd:ai l (i:Int)=l[i]:=getD_at l _ i hi;have hle:(mv ino (l.take i)).length≤i:=Nat.le_trans (List.length_filter_le _ _) (by rw[List.length_take];omega)
   have hst:mv ino (l.take (i+1))=mv ino (l.take i)++(if l[i].f0=ino then []else [l[i]]):=by
    unfold mv;rw[List.take_succ_eq_append_getElem hi,List.filter_append]
    congr 1
    by_cases c:l[i].f0=ino
    ·rw[if_pos c,List.filter_cons_of_neg (by simp[c]),List.filter_nil]
    ·rw[if_neg c,List.filter_cons_of_pos (by simp[c]),List.filter_nil]
   rw[hst]at h
   apply bb
   simp only[cd.l0,hrd,oG l[i] (hs _ (List.getElem_mem hi)),Option.bind_some];rw[qa i l.length hi (by omega)];refine bx (by omega) (bx (by omega) ?_)
   by_cases c:l[i].f0=ino
   ·rw[if_pos c,List.append_nil]at h;exact bx c h
   ·rw[if_neg c]at h
    exact cH c (bx (by omega) h))
 simpa [cd.f,mv]using key
end Go.Proofs.YtkfoopcpihmbmaaGreatDoor.Q
namespace Go.Proofs.YtkfoopcpihmbmaaGreatDoor.Q
open Go.RowKit Go.Proofs.YtkfoopcpihmbmaaGreatDoor.P Go.Proofs.ab.av Go.Proofs.ab.aQ Go.Proofs.ab.aT
theorem ct (l:List aW) (nx:Int) (hl:l.length≤1048576) (hs:∀x∈l,fJ x):Ev (fun k=>aG.f k l nx) (l,nx):=by
 have key:=down (n:=l.length) (P:=fun i=>Ev (fun k=>aG.l0 k (i:Nat) l nx (l.take i) nx) (l,nx)) (by
   apply bb
   simp only[aG.l0,List.take_length]
   exact cH (by omega) (Ev.now _)) (fun i hi h=>by
   have hrd:ai l (i:Int)=l[i]:=getD_at l _ i hi
   apply bb
   simp only[aG.l0,hrd,oG l[i] (hs _ (List.getElem_mem hi)),Option.bind_some];rw[qa i l.length hi (by omega)];refine bx (by omega) (bx (by omega) (bx (by rw[List.length_take];omega) ?_));rw[List.take_succ_eq_append_getElem hi]at h
   exact h)
 simpa [aG.f]using key
def kQ (ino:Int):List aW→Nat
 |[]=>0
 |y::l=>if y.f0<ino then kQ ino l+1 else 0
theorem rO (ino:Int) (l:List aW):∀j:Nat,dd ino l j<0→∀y∈l,y.f0≠ino:=by
 induction l with
 |nil=>intro j _ y hy;cases hy
 |cons x l ih=>
  intro j h y hy;rw[dd]at h
  split at h
  ·omega
  ·rcases List.mem_cons.1 hy with rfl|hy
   ·assumption
   ·exact ih _ h y hy
theorem aa3 (ino:Int) (l:List aW):(∀y∈l,y.f0≠ino)→∀j:Nat,(gtR ino l j= -1∧kQ ino l=l.length)∨(gtR ino l j=((j+kQ ino l:Nat):Int)∧kQ ino l<l.length):=by
 induction l with
 |nil=>intro _ j;exact .inl ⟨rfl,rfl⟩
 |cons x l ih=>
  intro h j;have hx:=h x (List.mem_cons_self ..);rw[gtR,kQ]
  by_cases c:ino<x.f0
  ·rw[if_pos c,if_neg (by omega)];exact .inr ⟨by simp,by simp⟩
  ·rw[if_neg c,if_pos (by omega)];rcases ih (fun y hy=>h y (List.mem_cons_of_mem _ hy)) (j+1)with⟨h1,h2⟩|⟨h1,h2⟩
   ·exact .inl ⟨h1,by rw[h2];rfl⟩
   ·exact .inr ⟨by rw[h1];congr 1;omega,by simp only[List.length_cons];omega⟩
theorem aa4 (ino:Int) (l:List aW) (h:dd ino l 0<0):gtP ino l=kQ ino l:=by
 unfold gtP;rcases aa3 ino l (rO ino l 0 h) 0 with⟨h1,h2⟩|⟨h1,h2⟩
 ·rw[h1,if_pos (by omega),h2]
 ·rw[h1,if_neg (by omega)];omega
theorem aa5 (ino:Int) (l:List aW):kQ ino l≤l.length:=by
 induction l with
 |nil=>exact Nat.le_refl _
 |cons x l ih=>rw[kQ,List.length_cons];split<;>omega
theorem fV (x:aW) (l:List aW):(gy x l).length≤l.length+1:=by
 unfold gy
 split
 ·rw[List.length_set];omega
 ·simp only[List.length_append,List.length_take,List.length_drop,List.length_singleton];omega
theorem lJ (x y:aW) (l:List aW) (h:y∈gy x l):y=x∨y∈l:=by
 unfold gy at h
 split at h
 ·rcases List.mem_or_eq_of_mem_set h with h|h
  ·exact .inr h
  ·exact .inl h
 ·rcases List.mem_append.1 h with h|h
  ·rcases List.mem_append.1 h with h|h
   ·exact .inr (List.mem_of_mem_take h)
   ·exact .inl (by simpa using h)
  ·exact .inr (List.mem_of_mem_drop h)
theorem je (l:List aW) (nx:Int) (x:aW) (hl:l.length≤1048576) (hs:∀x∈l,fJ x) (hx:fJ x):Ev (fun k=>aD.f k l nx x.f0 x.f1 x.f2 x.f3 x.f4 x.f5) (gy x l,nx):=by
 have hr:=jw x.f0 l 0;unfold aD.f;refine Ev.bind (ct l nx hl hs) (Ev.bind (oI l nx x.f0 hl) ?_)
 by_cases c:0≤dd x.f0 l 0
 ·simp only[oG x hx,Option.bind_some];refine bx c (bx c (bx (by omega) (eZ (Ev.now _) ?_)));unfold gy;rw[if_pos c]
 ·refine cH c ?_
  have hp:gy x l=l.take (kQ x.f0 l)++[x]++l.drop (kQ x.f0 l):=by
   unfold gy;rw[if_neg c,aa4 _ _ (by omega)]
  rw[hp];have hle:=aa5 x.f0 l
  have key:=down (n:=l.length) (P:=fun i=>i+kQ x.f0 (l.drop i)=kQ x.f0 l→Ev (fun k=>aD.l0 k (i:Nat) l nx x.f0 x.f1 x.f2 x.f3 x.f4 x.f5 l nx) (l.take (kQ x.f0 l)++[x]++l.drop (kQ x.f0 l),nx)) (fun hi=>by
    rw[List.drop_length]at hi
    have hi':l.length=kQ x.f0 l:=by rw[←hi];rfl
    apply bb
    simp only[aD.l0,oG x hx,Option.bind_some,Int.toNat_natCast,List.nil_append,List.length_nil];refine cH (by omega) (bx (by omega) (bx (by omega) (bx (by rw[List.length_take];omega) (bx (by rw[List.length_take];omega) (bx (by simp only[List.length_append,List.length_take,List.length_drop,List.length_singleton];omega) (eZ (Ev.now _) ?_))))))
    rw[←hi']) (fun i hi h hd=>by
    have hrd:ai l (i:Int)=l[i]:=getD_at l _ i hi;rw[List.drop_eq_getElem_cons hi,kQ]at hd
    apply bb
    simp only[aD.l0,hrd,oG x hx,Option.bind_some,Int.toNat_natCast,List.nil_append,List.length_nil];rw[qa i l.length hi (by omega)];refine bx (by omega) (bx (by omega) ?_)
    by_cases cc:l[i].f0<x.f0
    ·rw[if_pos cc]at hd;exact bx cc (h (by omega))
    ·rw[if_neg cc]at hd;refine cH cc (bx (by omega) (bx (by rw[List.length_take];omega) (bx (by rw[List.length_take];omega) (bx (by simp only[List.length_append,List.length_take,List.length_drop,List.length_singleton];omega) (eZ (Ev.now _) ?_)))))
     rw[show i=kQ x.f0 l by omega])
  exact key (by simp)
end Go.Proofs.YtkfoopcpihmbmaaGreatDoor.Q
namespace Go.Proofs.YtkfoopcpihmbmaaGreatDoor.Q
open Go.RowKit Go.Proofs.YtkfoopcpihmbmaaGreatDoor.P Go.Proofs.ab.av Go.Proofs.ab.aQ Go.Proofs.ab.aT
end Go.Proofs.YtkfoopcpihmbmaaGreatDoor.Q
namespace Go.Proofs.YtkfoopcpihmbmaaGreatDoor.Q
open Go.RowKit Go.Proofs.YtkfoopcpihmbmaaGreatDoor.P Go.Proofs.ab.av Go.Proofs.ab.aQ Go.Proofs.ab.aT
theorem xS (l:List ByteArray) (hl:l.length≤1048576) (hz:iW l≤1048576):Ev (fun k=>cT.f k l) (if l.length=0 then⟨#[47]⟩else if ej l=true then lG l else⟨#[]⟩):=by
 have hs:∀x∈l,x.size≤1048576:=fun x hx=>Nat.le_trans (xI l x hx) hz
 unfold cT.f
 by_cases c0:l.length=0
 ·exact bx (by omega) (eZ (Ev.now _) (by rw[if_pos c0]))
 ·refine cH (by omega) ?_;rw[if_neg c0]
  by_cases c:l.length≤30
  ·have key:=ads (n:=l.length) (P:=fun i=>∀acc:ByteArray,acc.size+(l.length-i)+iW (l.drop i)≤3000000→Ev (fun k=>cT.l0 k l acc (i:Nat)) (if(l.drop i).all fa=true then acc++lG (l.drop i)else⟨#[]⟩)) (by
     intro acc _
     apply bb
     simp only[cT.l0];refine cH (by omega) (eZ (Ev.now _) ?_);rw[List.drop_length]
     simp[lG,abJ]) (by
     intro i hi ih acc hb;have hd:=vU l i hi;have hx:=kF l[i] (by have:=hs l[i] (List.getElem_mem hi);omega)
     have h1:(acc++(⟨#[47]⟩:ByteArray)).size=acc.size+1:=by rw[ByteArray.size_append];rfl
     have ih:=ih ((acc++(⟨#[47]⟩:ByteArray))++l[i]) (by rw[ByteArray.size_append,h1];omega)
     apply bb
     simp only[cT.l0,rdS l i hi];rw[abG i l.length hi (by omega),List.drop_eq_getElem_cons hi,List.all_cons,lG];refine bx (by omega) (bx (by omega) (Ev.bind hx ?_))
     by_cases cn:fa l[i]=true
     ·refine bx cn (cH (by omega) (bx (by omega) (bx (by rw[h1];omega) (eZ ih ?_))));rw[cn,Bool.true_and]
      split
      ·simp only[ByteArray.append_assoc]
      ·rfl
     ·exact cH cn (eZ (Ev.now _) (by simp[cn])))
   refine eZ (key ⟨#[]⟩ (by simp only[List.drop_zero];have:(⟨#[]⟩:ByteArray).size=0:=rfl;omega)) ?_;simp only[List.drop_zero,abK,ej,c,decide_true,Bool.and_true]
  ·have hi:0<l.length:=by omega
   have hx:=kF l[0] (by have:=hs l[0] (List.getElem_mem hi);omega);have hr:dr ByteArray.empty l (0:Int)=l[0]:=rdS l 0 hi
   apply bb
   simp only[cT.l0,hr];refine bx (by omega) (bx (by omega) (Ev.bind hx ?_))
   have hgp:ej l=false:=by simp[ej,c]
   rw[hgp]
   by_cases cn:fa l[0]=true
   ·exact bx cn (bx (by omega) (Ev.now _))
   ·exact cH cn (Ev.now _)
end Go.Proofs.YtkfoopcpihmbmaaGreatDoor.Q
namespace Go.Proofs.YtkfoopcpihmbmaaGreatDoor.Q
open Go.RowKit Go.Proofs.YtkfoopcpihmbmaaGreatDoor.P Go.Proofs.ab.av Go.Proofs.ab.aQ Go.Proofs.ab.aT
end Go.Proofs.YtkfoopcpihmbmaaGreatDoor.Q
namespace Go.Proofs.YtkfoopcpihmbmaaGreatDoor.Q
open Go.RowKit Go.Proofs.YtkfoopcpihmbmaaGreatDoor.P Go.Proofs.ab.av Go.Proofs.ab.aQ Go.Proofs.ab.aT
def bk (s:ByteArray):ByteArray×ByteArray×Bool:=
 if(cw s).2=true then(if(cw s).1.length=0 then(⟨#[]⟩,⟨#[]⟩,false)else(qD ((cw s).1.take ((cw s).1.length-1)),(cw s).1.getD ((cw s).1.length-1) ⟨#[]⟩,true))else(⟨#[]⟩,⟨#[]⟩,false)
theorem ia (s:ByteArray) (hs:s.size≤1048576):Ev (fun k=>cS.f k s) (bk s):=by
 unfold cS.f bk;refine Ev.bind (jd s hs) ?_;obtain⟨h1,h2⟩:=oc s;generalize cw s=p at*;refine vq (fun c=> ?_) (fun _=>Ev.now _)
 by_cases c0:p.1.length=0
 ·exact bx (by omega) (eZ (Ev.now _) (by rw[if_pos c0]))
 ·have ht:=vZ p.1 (p.1.length-1)
  have hw:wrap64 ((p.1.length:Int)-1)=((p.1.length-1:Nat):Int):=by rw[lV (by omega) (by omega)];omega
  simp only[hw,Int.toNat_natCast];refine cH (by omega) (bx (by omega) (bx (by omega) (Ev.bind (xS _ (by rw[List.length_take];omega) (by omega)) (bx (by omega) (eZ (Ev.now _) ?_)))));rw[if_neg c0]
  rfl
end Go.Proofs.YtkfoopcpihmbmaaGreatDoor.Q
namespace Go.Proofs.YtkfoopcpihmbmaaGreatDoor.Q
open Go.RowKit Go.Proofs.YtkfoopcpihmbmaaGreatDoor.P Go.Proofs.ab.av Go.Proofs.ab.aQ Go.Proofs.ab.aT
theorem iy.a {x:aW}(h:iy x):fJ x:=⟨h.d,h.e,h.t⟩
def im (T:List aW) (nx:Int) (ps:List ByteArray):Bool:=ps.all (fun p=>(cw p).2)&&fx T nx
def cg (T:List aW) (p:ByteArray):aW×ByteArray×Int:=
 let q:=bk p
 let s:=cp T q.1
 if s.2=0 then(if s.1.f1=2 then(s.1,q.2.1,0)else(kG,⟨#[]⟩,3))else(kG,⟨#[]⟩,s.2)
theorem acR (l:List ByteArray) (h:ej l=true):iW l≤420∧l.length≤30:=by
 unfold ej at h;simp only[Bool.and_eq_true,decide_eq_true_eq,List.all_eq_true]at h;obtain⟨h1,h2⟩:=h
 have key:∀m:List ByteArray,(∀x∈m,fa x=true)→iW m≤14*m.length:=by
  intro m
  induction m with
  |nil=>intro _;simp[iW]
  |cons x m ih=>
   intro hm;have:=(oJ x (hm x (List.mem_cons_self ..))).2.2;have:=ih (fun y hy=>hm y (List.mem_cons_of_mem _ hy));simp only[iW,List.map_cons,List.sum_cons,List.length_cons]at this⊢
   omega
 have:=key l h1
 omega
theorem uN (l:List ByteArray):(qD l).size≤1048576:=by
 by_cases c:ej l=true
 ·rw[wa l c];have:=acR l c;omega
 ·unfold qD;split
  ·decide
  ·decide
theorem km (p:ByteArray):(bk p).1.size≤1048576:=by
 unfold bk
 split
 ·split
  ·decide
  ·exact uN _
 ·decide
def xb (s:aW×ByteArray×Int):Int×Int×Int×List Int×List cD×List bj×ByteArray×Int:=(s.1.f0,s.1.f1,s.1.f2,s.1.f3,s.1.f4,s.1.f5,s.2.1,s.2.2)
theorem kR (T:List aW) (p:ByteArray) (hs:∀x∈T,fJ x):fJ (cg T p).1:=by
 have h0:fJ kG:=⟨by decide,by decide,by decide⟩;unfold cg;dsimp only
 split
 ·split
  ·exact gm T _ hs
  ·exact h0
 ·exact h0
theorem kH (T:List aW) (p:ByteArray):(cp T p).1=kG∨(cp T p).1∈T:=by
 unfold cp
 split
 ·split
  ·right
   rename_i h1 h2
   show eg T (fv T p).1∈T
   unfold eg;unfold dz at h2;have h2:=of_decide_eq_true h2;rw[if_neg (by omega)];rcases jw (fv T p).1 T 0 with h|h
   ·omega
   ·obtain⟨n,hn⟩:∃n:Nat,dd (fv T p).1 T 0=n:=⟨(dd (fv T p).1 T 0).toNat,by omega⟩;rw[hn]at h⊢;have hrd:ai T (n:Int)=T[n]'(by omega):=getD_at T _ n (by omega);rw[hrd];exact List.getElem_mem _
  ·exact .inl rfl
 ·exact .inl rfl
def mn (nm:ByteArray) (ino:Int) (l:List cD):List cD:=l.take (vP nm l)++[⟨nm,ino⟩]++l.drop (vP nm l)
theorem abL (nm:ByteArray) (l:List cD):vP nm l≤l.length:=by
 unfold vP;rcases aaV nm l 0 with h|⟨i,h,hi⟩
 ·rw[h];simp
 ·rw[h];split<;>omega
theorem od (nm:ByteArray) (ino:Int) (l:List cD):(mn nm ino l).length=l.length+1:=by
 have:=abL nm l;simp only[mn,List.length_append,List.length_take,List.length_drop,List.length_singleton]
 omega
def gp (x:aW) (e:List cD):aW:=⟨x.f0,x.f1,x.f2,x.f3,e,x.f5⟩
def aa6 (x:aW) (d:List Int):aW:=⟨x.f0,x.f1,x.f2,d,x.f4,x.f5⟩
def pS (x:aW) (n:Int):aW:=⟨x.f0,x.f1,n,x.f3,x.f4,x.f5⟩
def mw (T:List aW) (nx:Int) (p:ByteArray) (kind:Int):List aW×Int×Int:=
 if im T nx [p]=true∧p.toList≠([47]:List UInt8)then
  (if(cg T p).2.2=0 then
   (if iC (cg T p).2.1 (cg T p).1.f4=0 then
    (if(cg T p).1.f4.length=10∨T.length=30∨nx=1000 then(T,nx,5)
     else(gy ⟨nx,kind,1,[],[],[]⟩ (gy (gp (cg T p).1 (mn (cg T p).2.1 nx (cg T p).1.f4)) T),nx+1,0))
    else(T,nx,4))
   else(T,nx,(cg T p).2.2))
 else(T,nx,1)
def eu (T:List aW) (p:ByteArray):aW×Int:=if(cp T p).2=0∧(cp T p).1.f1≠1 then((cp T p).1,3)else cp T p
theorem l_ (T:List aW) (p:ByteArray) (hs:∀x∈T,fJ x):fJ (eu T p).1:=by
 unfold eu
 split
 ·exact gm T p hs
 ·exact gm T p hs
def qF (d:List Int) (n:Nat):List Int:=d.take (min d.length n)++(List.replicate n 0).drop (min d.length n)
theorem pT (d:List Int) (n:Nat):(qF d n).length=n:=by
 simp only[qF,List.length_append,List.length_take,List.length_drop,List.length_replicate];omega
def aa7 (d:List Int) (o:Nat) (x:List Int):List Int:=(qF d (max d.length (o+x.length))).take o++x++(qF d (max d.length (o+x.length))).drop (o+x.length)
def po (T:List aW) (nx:Int) (p:ByteArray) (o:Int) (x:List Int):List aW×Int×Int:=
 if im T nx [p]=true∧(0≤o∧o≤100)then
  (if(eu T p).2=0 then
   (if o+(x.length:Int)>100 then(T,nx,5)
    else(gy (aa6 (eu T p).1 (aa7 (eu T p).1.f3 o.toNat x)) T,nx,0))
   else(T,nx,(eu T p).2))
 else(T,nx,1)
def pq (T:List aW) (nx:Int) (p:ByteArray) (n:Int):List aW×Int×Int:=
 if im T nx [p]=true∧(0≤n∧n≤100)then
  (if(eu T p).2=0 then(gy (aa6 (eu T p).1 (qF ((eu T p).1.f3.take (min n.toNat (eu T p).1.f3.length)) n.toNat)) T,nx,0)
   else(T,nx,(eu T p).2))
 else(T,nx,1)
end Go.Proofs.YtkfoopcpihmbmaaGreatDoor.Q
namespace Go.Proofs.YtkfoopcpihmbmaaGreatDoor.Q
open Go.RowKit Go.Proofs.YtkfoopcpihmbmaaGreatDoor.P Go.Proofs.ab.av Go.Proofs.ab.aQ Go.Proofs.ab.aT
theorem acS (P:Nat→Prop):∀n,P n→∃m,P m∧∀i,P i→m≤i:=by
 intro n
 induction n using Nat.strongRecOn with
 |ind n ih=>
  intro h
  by_cases c:∃i,i<n∧P i
  ·obtain⟨i,hi,hp⟩:=c;exact ih i hi hp
  ·exact⟨n,h,fun i hi=>Nat.le_of_not_lt fun hl=>c ⟨i,hl,hi⟩⟩
section
variable (ex:Int→Bool) (kids:Int→List Int)
theorem pU:∀n (xs:List Int),qX ex kids (n+1) xs=nI ex kids (qX ex kids n xs)
 |0,_=>rfl
 |n+1,xs=>pU n (nI ex kids xs)
structure IsTree (N:Nat):Prop where
 one:∀p q x,x∈kids p→x∈kids q→kids x≠[]→p=q
 nd:∀p,(kids p).Pairwise (fun a b=>kids a≠[]→a≠b)
 no1:∀p,1∉kids p
 all:∀x,kids x≠[]→x∈qX ex kids N [1]
def below:Nat→Int→List Int
 |0,_=>[]
 |k+1,x=>if kids x=[]then []else x::(kids x).flatMap (below k)
def tz:Nat→Int→Nat
 |0,_=>0
 |k+1,x=>((kids x).map fun y=>1+tz k y).sum
inductive tO (c:Int):Int→Prop
 |refl:tO c c
 |step {p x:Int}:tO c p→x∈kids p→tO c x
theorem tO.first{c y x:Int}(hy:y∈kids c) (h:tO kids y x):tO kids c x:=by
 induction h with
 |refl=>exact .step .refl hy
 |step _ hx ih=>exact .step ih hx
theorem mx:∀k c x,x∈below kids k c→tO kids c x∧kids x≠[]
 |0,_,_,h=>by simp[below]at h
 |k+1,c,x,h=>by
  unfold below at h
  split at h
  ·simp at h
  ·rename_i hc
   rcases List.mem_cons.1 h with rfl|h
   ·exact⟨.refl,hc⟩
   ·obtain⟨y,hy,h⟩:=List.mem_flatMap.1 h;obtain⟨h1,h2⟩:=mx k y x h;exact⟨h1.first kids hy,h2⟩
theorem pr:∀k c x,x∈below kids k c→kids c≠[]
 |0,_,_,h=>by simp[below]at h
 |k+1,c,x,h=>by
  unfold below at h
  split at h
  ·simp at h
  ·assumption
variable {ex kids}
theorem IsTree.rank {N:Nat}(t:IsTree ex kids N):∃r:Int→Nat,(∀x,kids x≠[]→r x≤N)∧∀p x,x∈kids p→kids x≠[]→r p<r x:=by
 have key:∀i p x,x∈kids p→kids x≠[]→x∈qX ex kids (i+1) [1]→p∈qX ex kids i [1]:=by
  intro i p x hp hx
  induction i with
  |zero=>
   intro h;rw[pU]at h;rcases(iR ex kids _ _).1 h with h|⟨⟨q,hq,h⟩,_⟩
   ·have:x=1:=by simpa [qX]using h
    subst this;exact absurd hp (t.no1 p)
   ·rw[t.one p q x hp h hx];exact hq
  |succ i ih=>
   intro h;rw[pU]at h;rcases(iR ex kids _ _).1 h with h|⟨⟨q,hq,h⟩,_⟩
   ·have:=ih h;rw[pU];exact(iR ex kids _ _).2 (.inl this)
   ·rw[t.one p q x hp h hx];exact hq
 have hm:∀x,∃m,kids x≠[]→(x∈qX ex kids m [1]∧∀i,x∈qX ex kids i [1]→m≤i):=by
  intro x
  by_cases hx:kids x=[]
  ·exact⟨0,fun h=>absurd hx h⟩
  ·obtain⟨m,h1,h2⟩:=acS (fun i=>x∈qX ex kids i [1]) N (t.all x hx);exact⟨m,fun _=>⟨h1,h2⟩⟩
 refine⟨fun x=>(hm x).choose,fun x hx=>((hm x).choose_spec hx).2 N (t.all x hx),fun p x hp hx=> ?_⟩
 show(hm p).choose<(hm x).choose
 obtain⟨h1,h2⟩:=(hm x).choose_spec hx;have hkp:kids p≠[]:=List.ne_nil_of_mem hp;obtain⟨g1,g2⟩:=(hm p).choose_spec hkp;generalize (hm x).choose=a at*;generalize (hm p).choose=b at*
 cases a with
 |zero=>
  have:x=1:=by simpa [qX]using h1
  subst this;exact absurd hp (t.no1 p)
 |succ a=>exact Nat.lt_succ_of_le (g2 a (key a p x hp hx h1))
theorem tO.rank {r:Int→Nat}(hr:∀p x,x∈kids p→kids x≠[]→r p<r x) {c x:Int}(h:tO kids c x):kids x≠[]→r c≤r x:=by
 induction h with
 |refl=>exact fun _=>Nat.le_refl _
 |step _ hx ih=>exact fun h=>Nat.le_trans (ih (List.ne_nil_of_mem hx)) (Nat.le_of_lt (hr _ _ hx h))
theorem IsTree.apart {N:Nat}(t:IsTree ex kids N) {d c c':Int}(hc:c∈kids d) (hc':c'∈kids d) (kc:kids c≠[]) (kc':kids c'≠[]) (hne:c≠c') {x:Int}(h:tO kids c x):tO kids c' x→kids x≠[]→False:=by
 obtain⟨r,_,hr⟩:=t.rank
 induction h with
 |refl=>
  intro h _
  cases h with
  |refl=>exact hne rfl
  |step h2 hp=>
   rw[t.one _ _ _ hp hc kc]at h2;have:=h2.rank hr (List.ne_nil_of_mem hc);have:=hr _ _ hc' kc'
   omega
 |step h1 hx ih=>
  intro h kx
  cases h with
  |refl=>
   rw[t.one _ _ _ hx hc' kc']at h1;have:=h1.rank hr (List.ne_nil_of_mem hc);have:=hr _ _ hc kc
   omega
  |step h2 hp=>
   rw[t.one _ _ _ hp hx kx]at h2;exact ih h2 (List.ne_nil_of_mem hx)
theorem IsTree.qG {N:Nat}(t:IsTree ex kids N):∀k c,(below kids k c).Nodup
 |0,_=>List.nodup_nil
 |k+1,c=>by
  obtain⟨r,_,hr⟩:=t.rank;unfold below
  split
  ·exact List.nodup_nil
  ·refine List.nodup_cons.2 ⟨fun h=> ?_,?_⟩
   ·obtain⟨y,hy,h⟩:=List.mem_flatMap.1 h;obtain⟨h1,h2⟩:=mx kids k y c h;have:=h1.rank hr h2;have:=hr _ _ hy (pr kids k y c h)
    omega
   ·refine List.pairwise_flatMap.2 ⟨fun y _=>t.qG k y,?_⟩;refine List.Pairwise.imp_of_mem ?_ (t.nd c);intro a b ha hb hab x hx y hy hxy;subst hxy;obtain⟨h1,h2⟩:=mx kids k a x hx;obtain⟨g1,_⟩:=mx kids k b x hy;have ka:=pr kids k a x hx;exact t.apart ha hb ka (pr kids k b x hy) (hab ka) h1 g1 h2
theorem xc (M:Nat) (hM:∀x,(kids x).length≤M):∀k c,tz kids k c≤M*(below kids k c).length
 |0,_=>Nat.zero_le _
 |k+1,c=>by
  unfold tz below
  split
  ·rename_i h;rw[h];exact Nat.zero_le _
  ·have key:∀ys:List Int,(ys.map fun y=>1+tz kids k y).sum≤ys.length+M*(ys.flatMap (below kids k)).length:=by
    intro ys
    induction ys with
    |nil=>exact Nat.zero_le _
    |cons y ys ih=>
     have:=xc M hM k y;simp only[List.map_cons,List.sum_cons,List.length_cons,List.flatMap_cons,List.length_append,Nat.mul_add]
     omega
   have h1:=key (kids c);have h2:=hM c;rw[List.length_cons,Nat.mul_succ]
   omega
theorem IsTree.cnt {N M:Nat}(t:IsTree ex kids N) (hM:∀x,(kids x).length≤M) (U:List Int) (hU:∀x,kids x≠[]→x∈U) (k:Nat) (c:Int):tz kids k c≤M*U.length:=
 Nat.le_trans (xc M hM k c) (Nat.mul_le_mul_left _ (lu _ _ (t.qG k c) fun x hx=>hU x (mx kids k c x hx).2))
end
end Go.Proofs.YtkfoopcpihmbmaaGreatDoor.Q
namespace Go.Proofs.YtkfoopcpihmbmaaGreatDoor.Q
open Go.RowKit Go.Proofs.YtkfoopcpihmbmaaGreatDoor.P Go.Proofs.ab.av Go.Proofs.ab.aQ Go.Proofs.ab.aT
theorem qm (n:Int) (l:List aW):∀i:Nat,dd n l i= -1∨∃j,∃h:j<l.length,dd n l i=((i+j:Nat):Int)∧l[j].f0=n:=by
 induction l with
 |nil=>intro i;exact .inl rfl
 |cons x l ih=>
  intro i;rw[dd]
  split
  ·rename_i h;exact .inr ⟨0,by simp,by simp,h⟩
  ·rcases ih (i+1)with h|⟨j,hj,h,e⟩
   ·exact .inl h
   ·exact .inr ⟨j+1,by simp;omega,by rw[h];congr 1;omega,by simpa using e⟩
theorem fG (l:List aW) (n:Int) (h:dz l n=true):eg l n∈l∧(eg l n).f0=n:=by
 unfold dz at h;have h:=of_decide_eq_true h;rcases qm n l 0 with g|⟨j,hj,g,e⟩
 ·omega
 ·unfold eg;rw[if_neg (by omega),g]
  have:ai l (((0+j:Nat):Int))=l[j]:=by rw[Nat.zero_add];exact getD_at l _ j hj
  rw[this];exact⟨List.getElem_mem hj,e⟩
theorem aa8 (nx:Int) (l:List aW):∀p,oV nx p l=true→∀x∈l,nN x=true:=by
 induction l with
 |nil=>intro _ _ x hx;simp at hx
 |cons y l ih=>
  intro p h x hx;simp only[oV,Bool.and_eq_true]at h;rcases List.mem_cons.1 hx with rfl|hx
  ·exact h.1.1.1
  ·exact ih _ h.2 x hx
theorem abM {α:Type}(f:α→Nat) (l:List α) (a b:α) (ha:a∈l) (hb:b∈l) (hne:a≠b):f a+f b≤(l.map f).sum:=by
 have one:∀(l:List α) (a:α),a∈l→f a≤(l.map f).sum:=by
  intro l a ha
  induction l with
  |nil=>simp at ha
  |cons x l ih=>
   rw[List.map_cons,List.sum_cons];rcases List.mem_cons.1 ha with rfl|ha
   ·omega
   ·have:=ih ha;omega
 induction l with
 |nil=>simp at ha
 |cons x l ih=>
  rw[List.map_cons,List.sum_cons];rcases List.mem_cons.1 ha with ea|ha2
  ·rcases List.mem_cons.1 hb with eb|hb2
   ·exact absurd (ea.trans eb.symm) hne
   ·have:=one l b hb2;rw[←ea];omega
  ·rcases List.mem_cons.1 hb with eb|hb2
   ·have:=one l a ha2;rw[←eb];omega
   ·have:=ih ha2 hb2;omega
theorem abN {α:Type}(f:α→Nat) (l:List α) (a:α) (ha:a∈l):f a≤(l.map f).sum:=by
 induction l with
 |nil=>simp at ha
 |cons x l ih=>
  rw[List.map_cons,List.sum_cons];rcases List.mem_cons.1 ha with rfl|ha
  ·omega
  ·have:=ih ha;omega
theorem nC (n:Int) (es:List cD) (h:n∈es.map (·.f1)):1≤gh n es:=by
 obtain⟨e,he,rfl⟩:=List.mem_map.1 h;exact List.length_pos_of_mem (List.mem_filter.2 ⟨he,by simp⟩)
theorem xT (Q:Int→Prop) (es:List cD) (h:∀a,Q a→gh a es≤1):(es.map (·.f1)).Pairwise (fun a b=>Q a→a≠b):=by
 induction es with
 |nil=>exact List.Pairwise.nil
 |cons e es ih=>
  rw[List.map_cons];refine List.pairwise_cons.2 ⟨fun b hb hq hab=> ?_,ih fun a ha=> ?_⟩
  ·have h1:=h e.f1 hq;have h2:=nC e.f1 es (by rw[hab];exact hb);unfold gh at h1 h2;rw[List.filter_cons,if_pos (by simp),List.length_cons]at h1
   omega
  ·have h1:=h a ha;unfold gh at h1⊢;rw[List.filter_cons]at h1
   split at h1
   ·rw[List.length_cons]at h1;omega
   ·exact h1
theorem xU (es:List cD):∀p,pe p es=true→∀e∈es,2≤e.f1∧fa e.f0=true:=by
 induction es with
 |nil=>intro _ _ x hx;simp at hx
 |cons y l ih=>
  intro p h x hx;simp only[pe,Bool.and_eq_true,decide_eq_true_eq]at h;rcases List.mem_cons.1 hx with rfl|hx
  ·exact⟨h.1.1.2.1,h.1.1.1⟩
  ·exact ih _ h.2 x hx
structure pV (l:List aW):Prop where
 len:l.length≤30
 ok:∀x∈l,nN x=true
 lk:∀x∈l,x.f2=(eW x.f0 l:Int)
 en:∀x∈l,∀e∈x.f4,dz l e.f1=true
 rt:dz l 1=true
 re:(qX (dz l) (eJ l) l.length [1]).length=l.length
theorem ib (l:List aW) (nx:Int) (h:fx l nx=true):pV l:=by
 simp only[fx,nG,Bool.and_eq_true,decide_eq_true_eq]at h;obtain⟨⟨⟨h1,_⟩,h2,_⟩,h3,h4⟩:=h
 have ht:∀x∈l,x.f2=(eW x.f0 l:Int)∧nB l x.f4=true:=by
  intro x hx;have:=List.all_eq_true.1 h4 x hx
  simpa using this
 have hr:dz l 1=true:=by
  apply Classical.byContradiction
  intro hn;unfold pn at h3;rw[if_neg hn]at h3;simp at h3;omega
 refine⟨h1.2,aa8 nx l none h2,fun x hx=>(ht x hx).1,fun x hx e he=>List.all_eq_true.1 (ht x hx).2 e he,hr,?_⟩;unfold pn at h3
 rwa [if_pos hr]at h3
theorem iz (x:aW) (h:nN x=true):x.f4.length≤10∧(∀e∈x.f4,2≤e.f1∧fa e.f0=true)∧(x.f1=2→x.f2≤1)∧(x.f1≠2→x.f4=[]):=by
 simp only[nN,iV,qj,Bool.and_eq_true,decide_eq_true_eq]at h;obtain⟨⟨⟨_,he⟩,_⟩,hk⟩:=h;refine⟨he.2,xU _ _ he.1,fun h2=> ?_,fun h2=> ?_⟩
 ·unfold kindOk at hk;rw[if_neg (by omega),if_pos h2]at hk;simp only[Bool.and_eq_true,decide_eq_true_eq]at hk;exact hk.2
 ·unfold kindOk at hk
  by_cases c:x.f1=1
  ·rw[if_pos c]at hk;exact List.eq_nil_of_length_eq_zero (by simpa using hk)
  ·rw[if_neg c,if_neg h2]at hk
   cases hk
theorem pV.kids {l:List aW}(t:pV l) (n:Int) (h:dz l n=true):eJ l n=(eg l n).f4.map (·.f1):=by
 unfold eJ
 split
 ·rfl
 ·rename_i c
  have:=(iz _ (t.ok _ (fG l n h).1)).2.2.2 (fun e=>c ⟨h,e⟩);rw[this];rfl
theorem pW (l:List aW) (n:Int) (h:eJ l n≠[]):dz l n=true∧(eg l n).f1=2:=by
 unfold eJ at h
 split at h
 ·assumption
 ·exact absurd rfl h
theorem pX (l:List aW) (n x:Int) (h:x∈eJ l n):(dz l n=true∧(eg l n).f1=2)∧x∈(eg l n).f4.map (·.f1):=by
 have hn:=pW l n (List.ne_nil_of_mem h);unfold eJ at h;rw[if_pos hn]at h;exact⟨hn,h⟩
theorem pV.aa9 {l:List aW}(t:pV l):IsTree (dz l) (eJ l) l.length:=by
 have lone:∀x,eJ l x≠[]→eW x l≤1:=by
  intro x hx;obtain⟨h1,h2⟩:=pW l x hx;obtain⟨g1,g2⟩:=fG l x h1;have h3:=(iz _ (t.ok _ g1)).2.2.1 h2;have h4:=t.lk _ g1;rw[g2]at h4
  omega
 refine⟨fun p q x hp hq hx=> ?_,fun p=> ?_,fun p h=> ?_,fun x hx=> ?_⟩
 ·apply Classical.byContradiction
  intro hne;obtain⟨⟨p1,p2⟩,p3⟩:=pX l p x hp;obtain⟨⟨q1,q2⟩,q3⟩:=pX l q x hq;obtain⟨p4,p5⟩:=fG l p p1;obtain⟨q4,q5⟩:=fG l q q1;have h:=lone x hx;have:=abM (fj x) l _ _ p4 q4 (fun e=>hne (by rw[←p5,←q5,e]))
  have a:1≤fj x (eg l p):=by unfold fj;rw[if_pos p2];exact nC _ _ p3
  have b:1≤fj x (eg l q):=by unfold fj;rw[if_pos q2];exact nC _ _ q3
  unfold eW at h
  omega
 ·unfold eJ
  split
  ·rename_i c
   refine xT _ _ fun a ha=> ?_
   have h:=lone a ha;have:=abN (fj a) l _ (fG l p c.1).1;unfold fj at this;rw[if_pos c.2]at this;unfold eW fj at h
   omega
  ·exact List.Pairwise.nil
 ·obtain⟨⟨p1,p2⟩,p3⟩:=pX l p 1 h;obtain⟨e,he,h1⟩:=List.mem_map.1 p3;have:=((iz _ (t.ok _ (fG l p p1).1)).2.1 e he).1;have h1:e.f1=1:=h1
  omega
 ·have hl:=tv (dz l) (eJ l) l.length [1] (List.pairwise_singleton ..);refine oK _ (l.map (·.f0)) (lH hl) ?_ (by rw[List.length_map,t.re];exact Nat.le_refl _) x (lI l x (pW l x hx).1);exact tw (dz l) (eJ l) (l.map (·.f0)) (fun _ _ y _ hy=>lI l y hy) _ _ (fun y hy=>by rw[List.mem_singleton.1 hy];exact lI l 1 t.rt)
theorem pV.cnt {l:List aW}(t:pV l) (k:Nat) (c:Int):tz (eJ l) k c≤300:=by
 have:=t.aa9.cnt (M:=10) (fun x=>by
  unfold eJ
  split
  ·rename_i h;rw[List.length_map];exact(iz _ (t.ok _ (fG l x h.1).1)).1
  ·exact Nat.zero_le _) (l.map (·.f0)) (fun x hx=>lI l x (pW l x hx).1) k c
 rw[List.length_map]at this;have:=t.len
 omega
end Go.Proofs.YtkfoopcpihmbmaaGreatDoor.Q
namespace Go.Proofs.YtkfoopcpihmbmaaGreatDoor.Q
open Go.RowKit Go.Proofs.YtkfoopcpihmbmaaGreatDoor.P Go.Proofs.ab.av Go.Proofs.ab.aQ Go.Proofs.ab.aT
def oe (p:ByteArray) (e:cD):ByteArray:=(p++(⟨#[47]⟩:ByteArray))++e.f0
def og (l:List aW):Nat→Int→ByteArray→List ByteArray
 |0,_,_=>[]
 |k+1,n,p=>(eg l n).f4.flatMap fun e=>oe p e::og l k e.f1 (oe p e)
theorem qH {l:List aW}(t:pV l):∀k n p,dz l n=true→(og l k n p).length=tz (eJ l) k n
 |0,_,_,_=>rfl
 |k+1,n,p,h=>by
  unfold og tz;rw[List.length_flatMap,t.kids n h,List.map_map]
  congr 1
  refine List.map_congr_left fun e he=> ?_
  show(oe p e::og l k e.f1 (oe p e)).length=1+tz (eJ l) k e.f1
  rw[List.length_cons,qH t k e.f1 _ (t.en _ (fG l n h).1 e he)]
  omega
def rP (l:List aW) (nx:Int):List ByteArray:=if fx l nx=true then og l (l.length+1) 1 ⟨#[]⟩else []
theorem sB (p:ByteArray) (e:cD):(oe p e).size=p.size+1+e.f0.size:=by
 unfold oe;rw[ByteArray.size_append,ByteArray.size_append];rfl
end Go.Proofs.YtkfoopcpihmbmaaGreatDoor.Q
namespace Go.Proofs.YtkfoopcpihmbmaaGreatDoor.Q
open Go.RowKit Go.Proofs.YtkfoopcpihmbmaaGreatDoor.P Go.Proofs.ab.av Go.Proofs.ab.aQ Go.Proofs.ab.aT
structure rQ (l:List aW) (nx:Int):Prop where
 n1:1≤l.length
 n30:l.length≤30
 x:2≤nx∧nx≤1000
 ok:∀x∈l,nN x=true
 lt:∀x∈l,x.f0<nx
 st:(l.map (·.f0)).Pairwise (·<·)
 hd:∃x∈l,x.f0=1∧x.f1=2
 lk:∀x∈l,x.f2=(eW x.f0 l:Int)
 en:∀x∈l,∀e∈x.f4,dz l e.f1=true
 re:∀x∈l,tO (eJ l) 1 x.f0
theorem uO (nx:Int) (l:List aW):∀p,oV nx p l=true↔((∀x∈l,nN x=true∧x.f0<nx)∧(∀q,p=some q→∀x∈l,q<x.f0)∧(l.map (·.f0)).Pairwise (·<·)):=by
 induction l with
 |nil=>intro p;simp[oV]
 |cons y l ih=>
  intro p;simp only[oV,Bool.and_eq_true,decide_eq_true_eq,ih]
  constructor
  ·rintro⟨⟨⟨h1,h2⟩,h3⟩,h4,h5,h6⟩;have h5:=h5 y.f0 rfl;refine⟨fun x hx=> ?_,fun q hq x hx=> ?_,?_⟩
   ·rcases List.mem_cons.1 hx with rfl|hx
    ·exact⟨h1,h2⟩
    ·exact h4 x hx
   ·subst hq
    have hy:q<y.f0:=by simpa [above]using h3
    rcases List.mem_cons.1 hx with rfl|hx
    ·exact hy
    ·have:=h5 x hx;omega
   ·rw[List.map_cons];refine List.pairwise_cons.2 ⟨fun b hb=> ?_,h6⟩;obtain⟨x,hx,rfl⟩:=List.mem_map.1 hb;exact h5 x hx
  ·rintro⟨h1,h2,h3⟩;rw[List.map_cons]at h3;obtain⟨h4,h5⟩:=List.pairwise_cons.1 h3;refine⟨⟨h1 y (List.mem_cons_self ..),?_⟩,fun x hx=>h1 x (List.mem_cons_of_mem _ hx),fun q hq x hx=> ?_,h5⟩
   ·cases p with
    |none=>rfl
    |some q=>exact decide_eq_true (h2 q rfl y (List.mem_cons_self ..))
   ·cases hq
    exact h4 _ (List.mem_map.2 ⟨x,hx,rfl⟩)
theorem xd (ex:Int→Bool) (kids:Int→List Int):∀n (xs:List Int),(∀x∈xs,tO kids 1 x)→∀x∈qX ex kids n xs,tO kids 1 x
 |0,_,h=>h
 |n+1,xs,h=>xd ex kids n _ (fun x hx=>by
  rcases(iR ex kids xs x).1 hx with hx|⟨⟨z,hz,hk⟩,_⟩
  ·exact h x hx
  ·exact .step (h z hz) hk)
theorem lK (l:List aW) (x:aW) (h:x∈l):dz l x.f0=true:=by
 rcases qm x.f0 l 0 with g|⟨j,hj,g,e⟩
 ·exact absurd rfl (rO x.f0 l 0 (by omega) x h)
 ·unfold dz;rw[g];exact decide_eq_true (by omega)
theorem uniq (l:List aW) (st:(l.map (·.f0)).Pairwise (·<·)) (x y:aW) (hx:x∈l) (hy:y∈l) (h:x.f0=y.f0):x=y:=by
 induction l with
 |nil=>simp at hx
 |cons z l ih=>
  rw[List.map_cons]at st;obtain⟨h1,h2⟩:=List.pairwise_cons.1 st;rcases List.mem_cons.1 hx with ex|hx
  ·rcases List.mem_cons.1 hy with ey|hy
   ·rw[ex,ey]
   ·have:=h1 _ (List.mem_map.2 ⟨y,hy,rfl⟩);rw[←ex]at this;omega
  ·rcases List.mem_cons.1 hy with ey|hy
   ·have:=h1 _ (List.mem_map.2 ⟨x,hx,rfl⟩);rw[←ey]at this;omega
   ·exact ih h2 hx hy
theorem xV (l:List aW) (st:(l.map (·.f0)).Pairwise (·<·)) (x:aW) (h:x∈l):eg l x.f0=x:=
 uniq l st _ _ (fG l x.f0 (lK l x h)).1 h (fG l x.f0 (lK l x h)).2
theorem nD (l:List aW) (nx:Int):fx l nx=true↔rQ l nx:=by
 constructor
 ·intro h;have t:=ib l nx h;simp only[fx,nG,nz,Bool.and_eq_true,decide_eq_true_eq,beq_iff_eq]at h;obtain⟨⟨⟨h1,h2⟩,h3,h4⟩,_⟩:=h;obtain⟨g1,_,g3⟩:=(uO nx l none).1 h3;refine⟨h1.1,h1.2,h2,fun x hx=>(g1 x hx).1,fun x hx=>(g1 x hx).2,g3,?_,t.lk,t.en,fun x hx=> ?_⟩
  ·have hr:ai l 0=l[0]'(by omega):=getD_at l _ 0 (by omega);rw[hr]at h4;exact⟨_,List.getElem_mem _,h4⟩
  ·have hl:=tv (dz l) (eJ l) l.length [1] (List.pairwise_singleton ..);have hall:=oK _ (l.map (·.f0)) (lH hl) (tw (dz l) (eJ l) (l.map (·.f0)) (fun _ _ y _ hy=>lI l y hy) _ _ (fun y hy=>by rw[List.mem_singleton.1 hy];exact lI l 1 t.rt)) (by rw[List.length_map,t.re];exact Nat.le_refl _) x.f0 (List.mem_map.2 ⟨x,hx,rfl⟩);exact xd _ _ _ _ (fun y hy=>by rw[List.mem_singleton.1 hy];exact .refl) _ hall
 ·intro t
  have hr1:dz l 1=true:=by
   obtain⟨x,hx,h1,_⟩:=t.hd;rw[←h1];exact lK l x hx
  have hhead:nz l=true:=by
   obtain⟨x,hx,h1,h2⟩:=t.hd;have hn:=t.n1;have hr:ai l 0=l[0]'(by omega):=getD_at l _ 0 (by omega);have hp:=uC _ (t.ok _ (List.getElem_mem (show 0<l.length by omega)))
   have hx0:x=l[0]'(by omega):=by
    obtain⟨i,hi,rfl⟩:=List.getElem_of_mem hx
    cases i with
    |zero=>rfl
    |succ i=>
     have:=List.pairwise_iff_getElem.1 t.st 0 (i+1) (by rw[List.length_map];omega) (by rw[List.length_map];exact hi) (by omega);rw[List.getElem_map,List.getElem_map]at this
     omega
   unfold nz;rw[hr,←hx0,h1,h2];rfl
  have hT:nG l nx=true:=by
   unfold nG;simp only[Bool.and_eq_true,decide_eq_true_eq];exact⟨⟨⟨t.n1,t.n30⟩,t.x⟩,(uO nx l none).2 ⟨fun x hx=>⟨t.ok x hx,t.lt x hx⟩,⟨(fun q hq=>by cases hq),t.st⟩⟩,hhead⟩
  have hL:qE l l=true:=by
   unfold qE nB;rw[List.all_eq_true];intro x hx;rw[Bool.and_eq_true,List.all_eq_true];exact⟨decide_eq_true (t.lk x hx),fun e he=>t.en x hx e he⟩
  have hR:(pn l).length=l.length:=by
   unfold pn;rw[if_pos hr1];have hl:=tv (dz l) (eJ l) l.length [1] (List.pairwise_singleton ..);have hin:∀x∈qX (dz l) (eJ l) l.length [1],x∈l.map (·.f0):=tw (dz l) (eJ l) (l.map (·.f0)) (fun _ _ y _ hy=>lI l y hy) _ _ (fun y hy=>by rw[List.mem_singleton.1 hy];exact lI l 1 hr1);have hshut:=uK (dz l) (eJ l) (l.map (·.f0)) (fun y hy=>lI l y hy) l.length [1] (List.pairwise_singleton ..) (fun x hx=>by rw[List.mem_singleton.1 hx];exact lI l 1 hr1) (by rw[List.length_map];omega);have h1:=w_ (dz l) (eJ l) l.length [1] 1 (List.mem_singleton.2 rfl)
   have hdes:∀x,tO (eJ l) 1 x→x∈qX (dz l) (eJ l) l.length [1]:=by
    intro x hx
    induction hx with
    |refl=>exact h1
    |step _ hk ih=>
     obtain⟨⟨p1,_⟩,p3⟩:=pX l _ _ hk;obtain⟨e,he,h⟩:=List.mem_map.1 p3;have hex:=t.en _ (fG l _ p1).1 e he;have h:e.f1=_:=h;rw[h]at hex;exact hshut _ ih _ hk hex
   have a:=lu _ _ (lH hl) hin
   have b:=lu (l.map (·.f0)) _ (lH t.st) (fun x hx=>by
    obtain⟨y,hy,rfl⟩:=List.mem_map.1 hx
    exact hdes _ (t.re y hy))
   rw[List.length_map]at a b
   omega
  unfold fx;rw[hT,hL,hR];simp
end Go.Proofs.YtkfoopcpihmbmaaGreatDoor.Q
namespace Go.Proofs.YtkfoopcpihmbmaaGreatDoor.Q
open Go.RowKit Go.Proofs.YtkfoopcpihmbmaaGreatDoor.P Go.Proofs.ab.av Go.Proofs.ab.aQ Go.Proofs.ab.aT
def jo (x:aW) (y:aW):aW:=if y.f0=x.f0 then x else y
theorem oh (l:List aW) (st:(l.map (·.f0)).Pairwise (·<·)) (x:aW) (h:dz l x.f0=true):gy x l=l.map (jo x):=by
 unfold dz at h;have h:=of_decide_eq_true h;unfold gy;rw[if_pos h];rcases qm x.f0 l 0 with g|⟨j,hj,g,e⟩
 ·omega
 ·rw[g]
  have:((0+j:Nat):Int).toNat=j:=by omega
  rw[this]
  apply List.ext_getElem
  ·rw[List.length_set,List.length_map]
  ·intro i h1 h2;rw[List.getElem_set,List.getElem_map]
   have hi:i<l.length:=by rw[List.length_set]at h1;exact h1
   unfold jo
   by_cases c:j=i
   ·subst c;rw[if_pos rfl,if_pos e]
   ·rw[if_neg c,if_neg];intro hf;have hp:=List.pairwise_iff_getElem.1 st;rcases Nat.lt_or_ge i j with d|d
    ·have:=hp i j (by rw[List.length_map];exact hi) (by rw[List.length_map];exact hj) d;rw[List.getElem_map,List.getElem_map]at this
     omega
    ·have:=hp j i (by rw[List.length_map];exact hj) (by rw[List.length_map];exact hi) (by omega);rw[List.getElem_map,List.getElem_map]at this
     omega
theorem wh (l:List aW) (g:aW→aW) (h:∀x∈l,(g x).f0=x.f0):(l.map g).map (·.f0)=l.map (·.f0):=by
 rw[List.map_map]
 exact List.map_congr_left fun x hx=>h x hx
theorem wi (n:Int) (g:aW→aW) (l:List aW):∀i:Nat,(∀x∈l,(g x).f0=x.f0)→dd n (l.map g) i=dd n l i:=by
 induction l with
 |nil=>intro i _;rfl
 |cons x l ih=>
  intro i h;rw[List.map_cons,dd,dd,h x (List.mem_cons_self ..),ih _ fun y hy=>h y (List.mem_cons_of_mem _ hy)]
theorem pY (g:aW→aW) (l:List aW) (h:∀x∈l,(g x).f0=x.f0) (n:Int):dz (l.map g) n=dz l n:=by
 unfold dz;rw[wi n g l 0 h]
theorem xW (g:aW→aW) (l:List aW) (st:(l.map (·.f0)).Pairwise (·<·)) (h:∀x∈l,(g x).f0=x.f0) (n:Int) (hn:dz l n=true):eg (l.map g) n=g (eg l n):=by
 obtain⟨h1,h2⟩:=fG l n hn;have:=xV (l.map g) (by rw[wh l g h];exact st) (g (eg l n)) (List.mem_map.2 ⟨_,h1,rfl⟩);rw[h _ h1,h2]at this;exact this
theorem rQ.same {l:List aW}{nx:Int}(t:rQ l nx) (g:aW→aW) (h:∀x∈l,(g x).f0=x.f0∧(g x).f1=x.f1∧(g x).f2=x.f2∧(g x).f4=x.f4) (hok:∀x∈l,nN (g x)=true):rQ (l.map g) nx:=by
 have h0:∀x∈l,(g x).f0=x.f0:=fun x hx=>(h x hx).1
 have hk:eJ (l.map g)=eJ l:=by
  funext n
  unfold eJ;rw[pY g l h0]
  by_cases c:dz l n=true
  ·rw[xW g l t.st h0 n c,(h _ (fG l n c).1).2.1,(h _ (fG l n c).1).2.2.2]
  ·rw[if_neg (fun e=>c e.1),if_neg (fun e=>c e.1)]
 have hlk:∀n,eW n (l.map g)=eW n l:=by
  intro n;unfold eW;rw[List.map_map]
  congr 1
  refine List.map_congr_left fun x hx=> ?_
  show fj n (g x)=fj n x
  unfold fj;rw[(h x hx).2.1,(h x hx).2.2.2]
 have get:∀y∈l.map g,∃x∈l,g x=y:=fun y hy=>by simpa using hy
 refine⟨by rw[List.length_map];exact t.n1,by rw[List.length_map];exact t.n30,t.x,fun y hy=> ?_,fun y hy=> ?_,by rw[wh l g h0];exact t.st,?_,fun y hy=> ?_,fun y hy e he=> ?_,fun y hy=> ?_⟩
 ·obtain⟨x,hx,rfl⟩:=get y hy;exact hok x hx
 ·obtain⟨x,hx,rfl⟩:=get y hy;rw[h0 x hx];exact t.lt x hx
 ·obtain⟨x,hx,h1,h2⟩:=t.hd;exact⟨g x,List.mem_map.2 ⟨x,hx,rfl⟩,by rw[h0 x hx];exact h1,by rw[(h x hx).2.1];exact h2⟩
 ·obtain⟨x,hx,rfl⟩:=get y hy;rw[(h x hx).2.2.1,h0 x hx,hlk];exact t.lk x hx
 ·obtain⟨x,hx,rfl⟩:=get y hy;rw[(h x hx).2.2.2]at he;rw[pY g l h0];exact t.en x hx e he
 ·obtain⟨x,hx,rfl⟩:=get y hy;rw[hk,h0 x hx];exact t.re x hx
end Go.Proofs.YtkfoopcpihmbmaaGreatDoor.Q
namespace Go.Proofs.YtkfoopcpihmbmaaGreatDoor.Q
open Go.RowKit Go.Proofs.YtkfoopcpihmbmaaGreatDoor.P Go.Proofs.ab.av Go.Proofs.ab.aQ Go.Proofs.ab.aT
def gtB (a b:ByteArray):Bool:= !(Op.bytesLess a.toList b.toList||a.toList==b.toList)
def leB (a b:ByteArray):Prop:=a.data.toList≤b.data.toList
theorem tA (a b:ByteArray):gtB a b=true↔¬leB a b:=by
 unfold gtB leB;rw[ByteArray.toList_eq,ByteArray.toList_eq,Go.Proofs.bytesLess_eq];simp only[Bool.not_eq_true',Bool.or_eq_false_iff,decide_eq_false_iff_not,beq_eq_false_iff_ne,ne_eq]
 constructor
 ·rintro⟨h1,h2⟩ h;exact h2 (List.le_antisymm h (List.not_lt.1 h1))
 ·intro h;exact⟨fun g=>h (List.le_of_lt g),fun g=>h (by rw[g];exact List.le_refl _)⟩
def oW (xs:List ByteArray) (n:ByteArray):Nat→Nat
 |0=>0
 |k+1=>if gtB (xs.getD k ByteArray.empty) n=true then oW xs n k else k+1
def om (xs:List ByteArray) (n:ByteArray):List ByteArray:=xs.take (oW xs n xs.length)++[n]++xs.drop (oW xs n xs.length)
theorem xe (xs:List ByteArray) (n:ByteArray):∀k,oW xs n k≤k
 |0=>Nat.le_refl _
 |k+1=>by rw[oW];split;exact Nat.le_succ_of_le (xe xs n k);exact Nat.le_refl _
theorem xf (xs:List ByteArray) (n:ByteArray):∀k,k≤xs.length→∀j,oW xs n k≤j→j<k→gtB (xs.getD j ByteArray.empty) n=true
 |0,_,j,_,h=>by omega
 |k+1,hk,j,h1,h2=>by
  rw[oW]at h1
  split at h1
  ·rcases Nat.lt_or_ge j k with h|h
   ·exact xf xs n k (by omega) j h1 h
   ·obtain rfl:j=k:=by omega
    assumption
  ·omega
theorem xg (xs:List ByteArray) (n:ByteArray):∀k,0<oW xs n k→¬gtB (xs.getD (oW xs n k-1) ByteArray.empty) n=true
 |0,h=>by simp[oW]at h
 |k+1,h=>by
  rw[oW]at h⊢
  split
  ·rename_i hc;rw[if_pos hc]at h;exact xg xs n k h
  ·rename_i hc;simpa using hc
theorem xX (xs:List ByteArray) (n:ByteArray):(om xs n).Perm (n::xs):=by
 unfold om;rw[List.append_assoc];refine List.perm_middle.trans ?_
 show(n::(xs.take _++xs.drop _)).Perm (n::xs)
 rw[List.take_append_drop]
theorem xY (a b:ByteArray):leB a b∨leB b a:=List.le_total _ _
theorem sC {a b c:ByteArray}(h:leB a b) (g:leB b c):leB a c:=List.le_trans h g
theorem uP (xs:List ByteArray) (n:ByteArray) (h:xs.Pairwise leB):(om xs n).Pairwise leB:=by
 unfold om;have hle:=xe xs n xs.length;have hgt:=xf xs n xs.length (Nat.le_refl _);have hat:=xg xs n xs.length;generalize oW xs n xs.length=j at hle hgt hat;have hp:=List.pairwise_iff_getElem.1 h
 have g:∀i (hi:i<xs.length),xs.getD i ByteArray.empty=xs[i]:=fun i hi=>by rw[List.getD_eq_getElem?_getD,List.getElem?_eq_getElem hi];rfl
 have h1:∀a∈xs.take j,leB a n:=fun a ha=>by
  obtain⟨i,hi,rfl⟩:=List.getElem_of_mem ha;rw[List.length_take]at hi;rw[List.getElem_take]
  have hj:0<j:=by omega
  have hn:=hat hj;rw[g (j-1) (by omega)]at hn
  have hn:leB xs[j-1] n:=Classical.byContradiction fun c=>hn ((tA _ _).2 c)
  rcases Nat.lt_or_ge i (j-1)with c|c
  ·exact sC (hp i (j-1) (by omega) (by omega) c) hn
  ·have:i=j-1:=by omega
   subst this;exact hn
 have h2:∀a∈xs.drop j,leB n a:=fun a ha=>by
  obtain⟨i,hi,rfl⟩:=List.getElem_of_mem ha;rw[List.length_drop]at hi;rw[List.getElem_drop];have:=hgt (j+i) (by omega) (by omega);rw[g (j+i) (by omega)]at this;have:=(tA _ _).1 this;exact(xY _ _).resolve_left this
 have h3:∀a∈xs.take j,∀b∈xs.drop j,leB a b:=fun a ha b hb=>sC (h1 a ha) (h2 b hb)
 rw[List.append_assoc];refine List.pairwise_append.2 ⟨h.sublist (List.take_sublist _ _),?_,fun a ha b hb=> ?_⟩
 ·exact List.pairwise_cons.2 ⟨h2,h.sublist (List.drop_sublist _ _)⟩
 ·rcases List.mem_cons.1 hb with rfl|hb
  ·exact h1 a ha
  ·exact h3 a ha b hb
theorem pt:∀(l acc:List ByteArray),acc.Pairwise leB→(l.foldl om acc).Pairwise leB∧(l.foldl om acc).Perm (l++acc)
 |[],acc,h=>⟨h,List.Perm.refl _⟩
 |x::l,acc,h=>by
  obtain⟨h1,h2⟩:=pt l (om acc x) (uP acc x h);refine⟨h1,h2.trans ?_⟩;exact((xX acc x).append_left l).trans List.perm_middle
end Go.Proofs.YtkfoopcpihmbmaaGreatDoor.Q
namespace Go.Proofs.YtkfoopcpihmbmaaGreatDoor.Q
open Go.RowKit Go.Proofs.YtkfoopcpihmbmaaGreatDoor.P Go.Proofs.ab.av Go.Proofs.ab.aQ Go.Proofs.ab.aT
theorem rR (l:List ByteArray):(lW l).Pairwise leB∧(lW l).Perm l:=by
 unfold lW;refine⟨?_,?_⟩
 ·rw[List.pairwise_map]
  have:=List.pairwise_mergeSort (le:=fun x y:List UInt8=>decide (x≤y)) (fun a b c h g=>by
   simp only[decide_eq_true_eq]at*;exact List.le_trans h g) (fun a b=>by
   simp only[Bool.or_eq_true,decide_eq_true_eq];exact List.le_total a b) (l.map fun b=>b.data.toList)
  refine this.imp fun{a b} h=> ?_
  simpa [leB]using h
 ·refine((List.mergeSort_perm _ _).map _).trans ?_;rw[List.map_map];refine List.Perm.of_eq ?_
  conv=>rhs;rw[←List.map_id l]
  exact List.map_congr_left fun b _=>by cases b;rfl
theorem uQ (l:List ByteArray):l.foldl om []=lW l:=by
 obtain⟨h1,h2⟩:=pt l [] List.Pairwise.nil;obtain⟨g1,g2⟩:=rR l;rw[List.append_nil]at h2;refine List.Perm.eq_of_pairwise (fun a b _ _ h g=> ?_) h1 g1 (h2.trans g2.symm);have:a.data.toList=b.data.toList:=List.le_antisymm h g
 cases a;cases b
 simp only[ByteArray.mk.injEq];exact Array.toList_inj.1 this
end Go.Proofs.YtkfoopcpihmbmaaGreatDoor.Q
namespace Go.Proofs.YtkfoopcpihmbmaaGreatDoor.Q
open Go.RowKit Go.Proofs.YtkfoopcpihmbmaaGreatDoor.P Go.Proofs.ab.av Go.Proofs.ab.aQ Go.Proofs.ab.aT
def tB (a b:ByteArray):Prop:=a.data.toList<b.data.toList
theorem sD (a b:ByteArray):Op.bytesLess a.toList b.toList=true↔tB a b:=by
 unfold tB;rw[ByteArray.toList_eq,ByteArray.toList_eq,Go.Proofs.bytesLess_eq,decide_eq_true_eq]
theorem qn {a b c:ByteArray}(h:tB a b) (g:tB b c):tB a c:=List.lt_trans h g
theorem tC (a b:ByteArray):gtB a b=true↔tB b a:=(tA a b).trans List.not_le
section
variable {α:Type}(key:α→ByteArray) (d:α)
def oX (xs:List α) (n:ByteArray):Nat→Nat
 |0=>0
 |k+1=>if gtB (key (xs.getD k d)) n=true then oX xs n k else k+1
def lp (xs:List α) (x:α):List α:=xs.take (oX key d xs (key x) xs.length)++[x]++xs.drop (oX key d xs (key x) xs.length)
theorem xh (xs:List α) (n:ByteArray) (p:Nat) (h1:∀i (hi:i<xs.length),i<p→¬tB n (key xs[i])) (h2:∀i (hi:i<xs.length),p≤i→tB n (key xs[i])):
  ∀k,p≤k→k≤xs.length→oX key d xs n k=p
 |0,h,_=>by rw[oX];omega
 |k+1,h,hk=>by
  have g:xs.getD k d=xs[k]:=by rw[List.getD_eq_getElem?_getD,List.getElem?_eq_getElem (by omega)];rfl
  rw[oX,g]
  by_cases c:p=k+1
  ·rw[if_neg (fun e=>h1 k (by omega) (by omega) ((tC _ _).1 e))];exact c.symm
  ·rw[if_pos ((tC _ _).2 (h2 k (by omega) (by omega)))];exact xh xs n p h1 h2 k (by omega) (by omega)
def nJ (xs:List α):Prop:=xs.Pairwise fun a b=>tB (key a) (key b)
theorem nJ.place {xs:List α}(h:nJ key xs) (n:ByteArray) (p:Nat) (hp:p≤xs.length) (h1:∀i (hi:i<xs.length),i<p→¬tB n (key xs[i])) (h2:∀hi:p<xs.length,tB n (key xs[p])):
  oX key d xs n xs.length=p:=by
 refine xh key d xs n p h1 (fun i hi hpi=> ?_) _ hp (Nat.le_refl _)
 have hps:p<xs.length:=by omega
 rcases Nat.lt_or_ge p i with c|c
 ·exact qn (h2 hps) (List.pairwise_iff_getElem.1 h p i hps hi c)
 ·have:p=i:=by omega
  subst this;exact h2 hps
end
theorem xZ (n:ByteArray) (l:List cD):∀j:Nat,(gtN n l j= -1∧∀i (hi:i<l.length),¬tB n l[i].f0)∨∃p,∃h:p<l.length,gtN n l j=((j+p:Nat):Int)∧tB n l[p].f0∧∀i (hi:i<l.length),i<p→¬tB n l[i].f0:=by
 induction l with
 |nil=>intro j;exact .inl ⟨rfl,fun i hi=>by simp at hi⟩
 |cons x l ih=>
  intro j;rw[gtN]
  by_cases c:gtS x.f0 n=true
  ·rw[if_pos c];exact .inr ⟨0,by simp,by simp,(tC _ _).1 c,fun i _ h=>by omega⟩
  ·rw[if_neg c]
   have hx:¬tB n x.f0:=fun e=>c ((tC _ _).2 e)
   rcases ih (j+1)with⟨h,g⟩|⟨p,hp,h,g1,g2⟩
   ·refine .inl ⟨h,fun i hi=> ?_⟩
    cases i with
    |zero=>exact hx
    |succ i=>exact g i (by simpa using hi)
   ·refine .inr ⟨p+1,by simp;omega,by rw[h];congr 1;omega,g1,fun i hi hip=> ?_⟩
    cases i with
    |zero=>exact hx
    |succ i=>exact g2 i (by simpa using hi) (by omega)
theorem wj (n:ByteArray) (l:List cD) (d:cD) (h:nJ (fun e:cD=>e.f0) l):oX (fun e:cD=>e.f0) d l n l.length=vP n l:=by
 unfold vP;rcases xZ n l 0 with⟨h1,h2⟩|⟨p,hp,h1,h2,h3⟩
 ·rw[h1,if_pos (by decide)];exact nJ.place _ d h n _ (Nat.le_refl _) (fun i hi _=>h2 i hi) (fun hi=>by omega)
 ·rw[h1,if_neg (by omega)]
  have:((0+p:Nat):Int).toNat=p:=by omega
  rw[this];exact nJ.place _ d h n p (by omega) h3 (fun _=>h2)
theorem x_ (l:List cD) (e d:cD) (h:nJ (fun e:cD=>e.f0) l):lp (fun e:cD=>e.f0) d l e=mn e.f0 e.f1 l:=by
 unfold lp mn;rw[wj _ _ _ h]
theorem wk (l:List cD):∀p,pe p l=true→(∀q,p=some q→∀e∈l,tB q e.f0)∧nJ (fun e:cD=>e.f0) l:=by
 induction l with
 |nil=>intro p _;exact⟨fun _ _ e he=>by simp at he,List.Pairwise.nil⟩
 |cons x l ih=>
  intro p h;simp only[pe,Bool.and_eq_true]at h;obtain⟨h1,h2⟩:=ih _ h.2;refine⟨fun q hq e he=> ?_,List.pairwise_cons.2 ⟨fun e he=>h1 x.f0 rfl e he,h2⟩⟩;subst hq;have hx:tB q x.f0:=(sD _ _).1 h.1.2;rcases List.mem_cons.1 he with rfl|he
  ·exact hx
  ·exact qn hx (h1 x.f0 rfl e he)
theorem uR (l:List bj):∀p,nX p l=true→(∀q,p=some q→∀e∈l,tB q e.f0)∧nJ (fun e:bj=>e.f0) l:=by
 induction l with
 |nil=>intro p _;exact⟨fun _ _ e he=>by simp at he,List.Pairwise.nil⟩
 |cons x l ih=>
  intro p h;simp only[nX,Bool.and_eq_true]at h;obtain⟨h1,h2⟩:=ih _ h.2;refine⟨fun q hq e he=> ?_,List.pairwise_cons.2 ⟨fun e he=>h1 x.f0 rfl e he,h2⟩⟩;subst hq;have hx:tB q x.f0:=(sD _ _).1 h.1.2;rcases List.mem_cons.1 he with rfl|he
  ·exact hx
  ·exact qn hx (h1 x.f0 rfl e he)
end Go.Proofs.YtkfoopcpihmbmaaGreatDoor.Q
namespace Go.Proofs.YtkfoopcpihmbmaaGreatDoor.Q
open Go.RowKit Go.Proofs.YtkfoopcpihmbmaaGreatDoor.P Go.Proofs.ab.av Go.Proofs.ab.aQ Go.Proofs.ab.aT
theorem aa_ (nm:ByteArray) (ino:Int) (l:List cD) (e:cD):e∈mn nm ino l↔e∈l∨e=⟨nm,ino⟩:=by
 unfold mn;rw[List.mem_append,List.mem_append,List.mem_singleton]
 conv=>rhs;rw[←List.take_append_drop (vP nm l) l,List.mem_append]
 constructor
 ·rintro((h|h)|h)
  ·exact .inl (.inl h)
  ·exact .inr h
  ·exact .inl (.inr h)
 ·rintro((h|h)|h)
  ·exact .inl (.inl h)
  ·exact .inr h
  ·exact .inl (.inr h)
end Go.Proofs.YtkfoopcpihmbmaaGreatDoor.Q
namespace Go.Proofs.YtkfoopcpihmbmaaGreatDoor.Q
open Go.RowKit Go.Proofs.YtkfoopcpihmbmaaGreatDoor.P Go.Proofs.ab.av Go.Proofs.ab.aQ Go.Proofs.ab.aT
theorem tO.mono {k k':Int→List Int}(h:∀p,∀x∈k p,x∈k' p) {c x:Int}(d:tO k c x):tO k' c x:=by
 induction d with
 |refl=>exact .refl
 |step _ hx ih=>exact .step ih (h _ _ hx)
theorem uS (y z:aW):(jo y z).f0=z.f0:=by
 unfold jo
 by_cases c:z.f0=y.f0
 ·rw[if_pos c];exact c.symm
 ·rw[if_neg c]
end Go.Proofs.YtkfoopcpihmbmaaGreatDoor.Q
namespace Go.Proofs.YtkfoopcpihmbmaaGreatDoor.Q
open Go.RowKit Go.Proofs.YtkfoopcpihmbmaaGreatDoor.P Go.Proofs.ab.av Go.Proofs.ab.aQ Go.Proofs.ab.aT
theorem uT (T:List aW) (p:ByteArray) (h:(cp T p).2=0):(cp T p).1∈T:=by
 unfold cp at h⊢
 by_cases c:(fv T p).2=0
 ·rw[if_pos c]at h⊢
  by_cases c2:dz T (fv T p).1=true
  ·rw[if_pos c2];exact(fG T _ c2).1
  ·rw[if_neg c2]at h;exact absurd h (by show¬(2:Int)=0;decide)
 ·rw[if_neg c]at h;exact absurd h c
theorem lL (T:List aW) (p:ByteArray) (h:(cg T p).2.2=0):(cg T p).1∈T∧(cg T p).1.f1=2∧(cg T p).2.1=(bk p).2.1:=by
 unfold cg at h⊢;dsimp only at h⊢
 by_cases c:(cp T (bk p).1).2=0
 ·rw[if_pos c]at h⊢
  by_cases c2:(cp T (bk p).1).1.f1=2
  ·rw[if_pos c2];exact⟨uT T _ c,c2,rfl⟩
  ·rw[if_neg c2]at h;exact absurd h (by show¬(3:Int)=0;decide)
 ·rw[if_neg c]at h;exact absurd h c
theorem tD (p:ByteArray) (h:(cw p).2=true) (h2:p.toList≠([47]:List UInt8)):fa (bk p).2.1=true:=by
 have hg:=qC p h
 have hne:(cw p).1≠[]:=by
  unfold cw at h⊢;rw[if_neg h2]at h⊢;generalize (parts p.data.toList).map nZ=m at h⊢
  cases m with
  |nil=>cases h
  |cons x l=>
   dsimp only at h⊢
   by_cases c:x.toList=[]∧l≠[]∧ej l=true
   ·rw[if_pos c];exact c.2.1
   ·rw[if_neg c]at h;cases h
 have hl:=List.length_pos_iff.2 hne;unfold bk;rw[if_pos h,if_neg (by omega)];unfold ej at hg;simp only[Bool.and_eq_true,List.all_eq_true]at hg
 show fa ((cw p).1.getD ((cw p).1.length-1) ⟨#[]⟩)=true
 rw[List.getD_eq_getElem?_getD,List.getElem?_eq_getElem (by omega)];exact hg.1 _ (List.getElem_mem _)
theorem oo (T:List aW) (p:ByteArray) (h:(eu T p).2=0):(eu T p).1∈T∧(eu T p).1.f1=1:=by
 unfold eu at h⊢
 by_cases c:(cp T p).2=0∧(cp T p).1.f1≠1
 ·rw[if_pos c]at h;exact absurd h (by show¬(3:Int)=0;decide)
 ·rw[if_neg c]at h⊢;refine⟨uT T p h,Classical.byContradiction fun q=>c ⟨h,q⟩⟩
theorem uU (d:List Int) (o:Nat) (x:List Int):(aa7 d o x).length=max d.length (o+x.length):=by
 unfold aa7;simp only[List.length_append,List.length_take,List.length_drop,pT]
 omega
end Go.Proofs.YtkfoopcpihmbmaaGreatDoor.Q
namespace Go.Proofs.YtkfoopcpihmbmaaGreatDoor.Q
open Go.RowKit Go.Proofs.YtkfoopcpihmbmaaGreatDoor.P Go.Proofs.ab.av Go.Proofs.ab.aQ Go.Proofs.ab.aT
theorem nE (x:aW) (T:List aW) (e:List cD) (hx:fJ x) (he:e.length≤1048576) (hT:∀x∈T,fJ x):∀y∈gy (gp x e) T,fJ y:=by
 intro y hy;rcases lJ _ _ _ hy with rfl|hy
 ·exact⟨hx.d,he,hx.t⟩
 ·exact hT y hy
end Go.Proofs.YtkfoopcpihmbmaaGreatDoor.Q
namespace Go.Proofs.YtkfoopcpihmbmaaGreatDoor.Q
open Go.RowKit Go.Proofs.YtkfoopcpihmbmaaGreatDoor.P Go.Proofs.ab.av Go.Proofs.ab.aQ Go.Proofs.ab.aT
def acT (T:List aW) (nx:Int) (p:ByteArray):List aW×Int×Int:=
 if(cp T p).2=0 then
  (if(cp T p).1.f1=2 then
   (if(cp T p).1.f4.length>0 then(T,nx,6)
    else(mv (cp T p).1.f0 (gy (gp (cg T p).1 (delN (cg T p).2.1 (cg T p).1.f4)) T),nx,0))
   else(T,nx,3))
 else(T,nx,(cp T p).2)
end Go.Proofs.YtkfoopcpihmbmaaGreatDoor.Q
namespace Go.Proofs.YtkfoopcpihmbmaaGreatDoor.Q
open Go.RowKit Go.Proofs.YtkfoopcpihmbmaaGreatDoor.P Go.Proofs.ab.av Go.Proofs.ab.aQ Go.Proofs.ab.aT
theorem ya (T:List aW) (b:List ByteArray):∀(a:List ByteArray) (ino:Int),kP T (a++b) ino=if(kP T a ino).2=0 then kP T b (kP T a ino).1 else kP T a ino:=by
 intro a
 induction a with
 |nil=>intro ino;rfl
 |cons n a ih=>
  intro ino;rw[List.cons_append,kP,kP]
  by_cases c1:dz T ino=true
  ·rw[if_pos c1,if_pos c1]
   by_cases c2:(eg T ino).f1=2
   ·rw[if_pos c2,if_pos c2]
    by_cases c3:iC n (eg T ino).f4=0
    ·rw[if_pos c3,if_pos c3];rfl
    ·rw[if_neg c3,if_neg c3];exact ih _
   ·rw[if_neg c2,if_neg c2];rfl
  ·rw[if_neg c1,if_neg c1];rfl
theorem oM (T:List aW) (p:ByteArray) (hs:(cw p).2=true) (hr:p.toList≠([47]:List UInt8)) (h:(cp T p).2=0):(cg T p).2.2=0∧iC (cg T p).2.1 (cg T p).1.f4=(cp T p).1.f0∧iC (cg T p).2.1 (cg T p).1.f4≠0:=by
 have hg:=qC p hs
 have hne:(cw p).1≠[]:=by
  unfold cw at hs⊢;rw[if_neg hr]at hs⊢;generalize (parts p.data.toList).map nZ=m at hs⊢
  cases m with
  |nil=>cases hs
  |cons x l=>
   dsimp only at hs⊢
   by_cases c:x.toList=[]∧l≠[]∧ej l=true
   ·rw[if_pos c];exact c.2.1
   ·rw[if_neg c]at hs;cases hs
 have hl:=List.length_pos_iff.2 hne
 have hp:bk p=(qD ((cw p).1.take ((cw p).1.length-1)),(cw p).1.getD ((cw p).1.length-1) ⟨#[]⟩,true):=by
  unfold bk;rw[if_pos hs,if_neg (by omega)]
 have hgt:ej ((cw p).1.take ((cw p).1.length-1))=true:=by
  unfold ej at hg⊢;simp only[Bool.and_eq_true,List.all_eq_true,decide_eq_true_eq]at hg⊢;exact⟨fun x hx=>hg.1 x (List.mem_of_mem_take hx),by rw[List.length_take];omega⟩
 have adM:=uG _ hgt
 have happ:(cw p).1=(cw p).1.take ((cw p).1.length-1)++[(cw p).1.getD ((cw p).1.length-1) ⟨#[]⟩]:=by
  conv=>lhs;rw[←List.take_append_drop ((cw p).1.length-1) (cw p).1]
  congr 1
  rw[List.drop_eq_getElem_cons (by omega),List.getD_eq_getElem?_getD,List.getElem?_eq_getElem (by omega),List.drop_of_length_le (by omega)]
  rfl
 have hw:fv T p=if(fv T (bk p).1).2=0 then kP T [(bk p).2.1] (fv T (bk p).1).1 else fv T (bk p).1:=by
  have h1:fv T (bk p).1=kP T ((cw p).1.take ((cw p).1.length-1)) 1:=by
   unfold fv;rw[hp,adM];rfl
  rw[h1]
  have h2:fv T p=kP T (cw p).1 1:=by unfold fv;rw[if_pos hs]
  rw[h2]
  conv=>lhs;rw[happ]
  rw[ya,hp]
 unfold cp at h⊢
 by_cases c:(fv T p).2=0
 ·rw[if_pos c]at h⊢
  by_cases c2:dz T (fv T p).1=true
  ·rw[if_pos c2];have adN:=(fG T _ c2).2;have hsp:cg T p=(let s:=cp T (bk p).1;if s.2=0 then(if s.1.f1=2 then(s.1,(bk p).2.1,0)else(kG,⟨#[]⟩,3))else(kG,⟨#[]⟩,s.2)):=rfl;rw[hsp];unfold cp;generalize (bk p).2.1=nm at*;generalize fv T (bk p).1=w at*
   by_cases d:w.2=0
   ·rw[if_pos d]at hw⊢;rw[kP]at hw
    by_cases d1:dz T w.1=true
    ·rw[if_pos d1]at hw⊢
     by_cases d2:(eg T w.1).f1=2
     ·rw[if_pos d2]at hw
      by_cases d3:iC nm (eg T w.1).f4=0
      ·rw[if_pos d3]at hw;rw[hw]at c;exact absurd c (by show¬(2:Int)=0;decide)
      ·rw[if_neg d3]at hw;dsimp only;rw[if_pos rfl,if_pos d2];refine⟨rfl,?_,d3⟩
       show iC nm (eg T w.1).f4=(eg T (fv T p).1).f0
       rw[adN,hw];rfl
     ·rw[if_neg d2]at hw;rw[hw]at c;exact absurd c (by show¬(3:Int)=0;decide)
    ·rw[if_neg d1]at hw;rw[hw]at c;exact absurd c (by show¬(2:Int)=0;decide)
   ·rw[if_neg d]at hw;rw[hw]at c;exact absurd c d
  ·rw[if_neg c2]at h;exact absurd h (by show¬(2:Int)=0;decide)
 ·rw[if_neg c]at h;exact absurd h c
end Go.Proofs.YtkfoopcpihmbmaaGreatDoor.Q
namespace Go.Proofs.YtkfoopcpihmbmaaGreatDoor.Q
open Go.RowKit Go.Proofs.YtkfoopcpihmbmaaGreatDoor.P Go.Proofs.ab.av Go.Proofs.ab.aQ Go.Proofs.ab.aT
def qo (T:List aW) (p:ByteArray):aW×Int:=if(cp T p).2=0∧(cp T p).1.f1≠1 then(kG,3)else cp T p
theorem ma (T:List aW) (p:ByteArray):(qo T p).2=(eu T p).2:=by
 unfold qo eu;split<;>rfl
theorem mb (T:List aW) (p:ByteArray) (h:(eu T p).2=0):qo T p=eu T p:=by
 unfold eu at h;unfold qo eu
 split
 ·rename_i c;rw[if_pos c]at h;cases h
 ·rfl
theorem oN (T:List aW) (nx:Int) (p:ByteArray) (hT:T.length≤1048576) (hs:∀x∈T,fJ x) (hp:p.size≤1048576):Ev (fun k=>ft.f k T nx p) (sg (qo T p)):=by
 unfold ft.f qo;refine Ev.bind (jk T nx p hT hs hp) ?_;simp only[sg]
 by_cases c:(cp T p).2=0
 ·refine bx c ?_
  by_cases c2:(cp T p).1.f1=1
  ·refine bx c2 (eZ (Ev.now _) ?_);rw[if_neg (fun h=>h.2 c2)]
  ·refine cH c2 (eZ (Ev.now _) ?_);rw[if_pos ⟨c,c2⟩];rfl
 ·refine cH c (eZ (Ev.now _) ?_);rw[if_neg (fun h=>c h.1)]
theorem ready_one (T:List aW) (nx:Int) (p:ByteArray):im T nx [p]=true↔(fx T nx=true∧(cw p).2=true):=by
 unfold im;simp only[List.all_cons,List.all_nil,Bool.and_true,Bool.and_eq_true];exact⟨fun h=>⟨h.2,h.1⟩,fun h=>⟨h.2,h.1⟩⟩
theorem rS (d:List Int) (n:Nat) (h:d.length≤n):qF d n=d++List.replicate (n-d.length) 0:=by
 unfold qF;rw[Nat.min_eq_left h,List.take_length,List.drop_replicate]
theorem wm (d:List Int) (n:Nat):(d++List.replicate (n-d.length) 0).take n=qF (d.take (min n d.length)) n:=by
 rcases Nat.le_total d.length n with h|h
 ·rw[Nat.min_eq_right h,List.take_length,rS d n h];exact List.take_of_length_le (by simp;omega)
 ·rw[Nat.min_eq_left h,rS _ _ (by rw[List.length_take];omega),List.length_take,Nat.min_eq_left h,Nat.sub_self,Nat.sub_eq_zero_of_le h];simp
theorem nK (T:List aW) (nx n:Int) (hT:T.length≤1048576) (hA:∀x∈T,fJ x) (h0:0≤n) (hn:n≤1048576) (a b c:Int) (e:List cD) (t:List bj) (he:e.length≤1048576) (ht:t.length≤1048576):
  ∀m (d:List Int),n.toNat-d.length=m→d.length≤1048576→Ev (fun k=>cr.l0 k n T nx a b c d e t) (gy ⟨a,b,c,(d++List.replicate m 0).take n.toNat,e,t⟩ T,nx,0)
 |0,d,hm,hd=>by
  apply bb
  simp only[cr.l0];refine cH (by omega) (bx h0 (bx (by omega) ?_));rw[List.replicate_zero,List.append_nil];exact Ev.bind (je T nx ⟨a,b,c,d.take n.toNat,e,t⟩ hT hA ⟨by rw[List.length_take];show min _ _≤_;omega,he,ht⟩) (Ev.now _)
 |m+1,d,hm,hd=>by
  apply bb
  simp only[cr.l0];refine bx (by omega) (bx (by omega) ?_);have h:=nK T nx n hT hA h0 hn a b c e t he ht m (d++[0]) (by simp;omega) (by simp;omega);rw[List.append_assoc]at h;exact h
theorem wo (T:List aW) (nx:Int) (p:ByteArray) (n:Int) (hT:T.length≤1048576) (hs:∀x∈T,iy x) (hp:p.size≤1048576):Ev (fun k=>cr.f k T nx p n) (pq T nx p n):=by
 have hA:∀x∈T,fJ x:=fun x hx=>(hs x hx).a
 have bad:¬(im T nx [p]=true∧(0≤n∧n≤100))→Ev (fun k=>cr.j0 k p n true T nx) (pq T nx p n):=by
  intro c
  apply bb
  simp only[cr.j0];refine bx trivial (Ev.bind (ct T nx hT hA) (eZ (Ev.now _) ?_));unfold pq;rw[if_neg c]
 unfold cr.f;refine Ev.bind (jd p hp) (Ev.bind (gn T nx hT hs) ?_)
 by_cases c1:fx T nx=true
 ·refine bx c1 ?_
  by_cases c2:(cw p).2=true
  ·refine bx c2 ?_;simp only[lX,Option.bind_some]
   by_cases c3:0≤n∧n≤100
   ·rw[decide_eq_true c3]
    apply bb
    simp only[cr.j0,Bool.not_true];refine cH (by decide) (Ev.bind (oN T nx p hT hA hp) ?_);have hc:=ma T p;have hf:=l_ T p hA;unfold pq;rw[if_pos ⟨(ready_one T nx p).2 ⟨c1,c2⟩,c3⟩];simp only[sg]
    by_cases c4:(eu T p).2=0
    ·rw[mb T p c4];refine bx c4 ?_;rw[if_pos c4];have hd:=hf.d;refine eZ (nK T nx n hT hA c3.1 (by omega) _ _ _ _ _ hf.e hf.t _ (eu T p).1.f3 rfl hd) ?_;rw[wm]
     rfl
    ·refine cH (by rw[hc];exact c4) (Ev.bind (ct T nx hT hA) (eZ (Ev.now _) ?_));rw[if_neg c4,hc]
   ·rw[decide_eq_false c3];exact bad (fun h=>c3 h.2)
  ·exact cH c2 (bad (fun h=>c2 ((ready_one T nx p).1 h.1).2))
 ·exact cH c1 (bad (fun h=>c1 ((ready_one T nx p).1 h.1).1))
theorem wq (d x:List Int) (o i:Nat) (hi:i<x.length) (hd:o+x.length≤d.length):(d.take o++x.take i++d.drop (o+i)).set (o+i) x[i]=d.take o++x.take (i+1)++d.drop (o+(i+1)):=by
 have hl:(d.take o++x.take i).length=o+i:=by simp only[List.length_append,List.length_take];omega
 rw[List.set_append,if_neg (by rw[hl];omega),hl,Nat.sub_self,List.drop_eq_getElem_cons (by omega),List.set_cons_zero,List.take_succ_eq_append_getElem hi];simp only[List.append_assoc,List.cons_append,List.nil_append,Nat.add_assoc]
theorem rT (T:List aW) (nx:Int) (hT:T.length≤1048576) (hA:∀x∈T,fJ x) (a b c:Int) (e:List cD) (t:List bj) (he:e.length≤1048576) (ht:t.length≤1048576)
  (D x:List Int) (o:Nat) (ho:o+x.length≤D.length) (hD:D.length≤1048576):Ev (fun k=>aE.l1 k (o:Int) x 0 T nx a b c D e t) (gy ⟨a,b,c,D.take o++x++D.drop (o+x.length),e,t⟩ T,nx,0):=by
 have key:=down (n:=x.length) (P:=fun i=>Ev (fun k=>aE.l1 k (o:Int) x (i:Nat) T nx a b c (D.take o++x.take i++D.drop (o+i)) e t) (gy ⟨a,b,c,D.take o++x++D.drop (o+x.length),e,t⟩ T,nx,0)) (by
  apply bb
  simp only[aE.l1];rw[List.take_length];refine cH (by omega) (Ev.bind (je T nx ⟨a,b,c,D.take o++x++D.drop (o+x.length),e,t⟩ hT hA ⟨?_,he,ht⟩) (Ev.now _))
  show(D.take o++x++D.drop (o+x.length)).length≤1048576
  simp only[List.length_append,List.length_take,List.length_drop];omega) (fun i hi h=>by
  have hr:rd x (i:Int)=x[i]:=getD_at x _ i hi
  have hw:wrap64 ((o:Int)+(i:Int))=((o+i:Nat):Int):=by rw[lV (by omega) (by omega)];omega
  apply bb
  simp only[aE.l1,hr,hw];refine bx (by omega) (bx (by omega) (bx (by omega) (bx (by simp only[List.length_append,List.length_take,List.length_drop];omega) ?_)));rw[Int.toNat_natCast,wq D x o i hi ho,qa i x.length hi (by omega)]
  exact h)
 have h0:D.take o++x.take 0++D.drop (o+0)=D:=by rw[List.take_zero,List.append_nil,Nat.add_zero,List.take_append_drop]
 have key2:Ev (fun k=>aE.l1 k (o:Int) x ((0:Nat):Int) T nx a b c (D.take o++x.take 0++D.drop (o+0)) e t) (gy ⟨a,b,c,D.take o++x++D.drop (o+x.length),e,t⟩ T,nx,0):=key;rw[h0]at key2;exact key2
theorem nL (T:List aW) (nx:Int) (hT:T.length≤1048576) (hA:∀x∈T,fJ x) (a b c:Int) (e:List cD) (t:List bj) (he:e.length≤1048576) (ht:t.length≤1048576) (x:List Int) (o:Nat) (ho:o+x.length≤1048576):
  ∀m (d:List Int),o+x.length-d.length=m→d.length≤1048576→Ev (fun k=>aE.l0 k (o:Int) x T nx a b c d e t) (gy ⟨a,b,c,(d++List.replicate m 0).take o++x++(d++List.replicate m 0).drop (o+x.length),e,t⟩ T,nx,0)
 |0,d,hm,hd=>by
  have hw:wrap64 ((o:Int)+(x.length:Int))=((o+x.length:Nat):Int):=by rw[lV (by omega) (by omega)];omega
  apply bb
  simp only[aE.l0,hw];refine cH (by omega) ?_;rw[List.replicate_zero,List.append_nil];exact rT T nx hT hA a b c e t he ht d x o (by omega) hd
 |m+1,d,hm,hd=>by
  have hw:wrap64 ((o:Int)+(x.length:Int))=((o+x.length:Nat):Int):=by rw[lV (by omega) (by omega)];omega
  apply bb
  simp only[aE.l0,hw];refine bx (by omega) (bx (by omega) ?_);have h:=nL T nx hT hA a b c e t he ht x o ho m (d++[0]) (by simp;omega) (by simp;omega);rw[show d++List.replicate (m+1) 0=(d++[0])++List.replicate m 0 by rw[List.append_assoc];rfl];exact h
theorem aba (d x:List Int) (o:Nat):(d++List.replicate (o+x.length-d.length) 0).take o++x++(d++List.replicate (o+x.length-d.length) 0).drop (o+x.length)=aa7 d o x:=by
 unfold aa7;rw[rS d (max d.length (o+x.length)) (Nat.le_max_left ..),show max d.length (o+x.length)-d.length=o+x.length-d.length by omega]
theorem wu (T:List aW) (nx:Int) (p:ByteArray) (o:Int) (x:List Int) (hT:T.length≤1048576) (hs:∀x∈T,iy x) (hp:p.size≤1048576) (hx:x.length≤1048576):Ev (fun k=>aE.f k T nx p o x) (po T nx p o x):=by
 have hA:∀x∈T,fJ x:=fun x hx=>(hs x hx).a
 have bad:¬(im T nx [p]=true∧(0≤o∧o≤100))→Ev (fun k=>aE.j0 k p o x true T nx) (po T nx p o x):=by
  intro c
  apply bb
  simp only[aE.j0];refine bx trivial (Ev.bind (ct T nx hT hA) (eZ (Ev.now _) ?_));unfold po;rw[if_neg c]
 unfold aE.f;refine Ev.bind (jd p hp) (Ev.bind (gn T nx hT hs) ?_)
 by_cases c1:fx T nx=true
 ·refine bx c1 ?_
  by_cases c2:(cw p).2=true
  ·refine bx c2 ?_;simp only[lX,Option.bind_some]
   by_cases c3:0≤o∧o≤100
   ·rw[decide_eq_true c3]
    apply bb
    simp only[aE.j0,Bool.not_true];refine cH (by decide) (Ev.bind (oN T nx p hT hA hp) ?_);have hc:=ma T p;have hf:=l_ T p hA;have hw:wrap64 (100-o)=100-o:=lV (by omega) (by omega);unfold po;rw[if_pos ⟨(ready_one T nx p).2 ⟨c1,c2⟩,c3⟩];simp only[sg,hw]
    by_cases c4:(eu T p).2=0
    ·rw[mb T p c4];refine bx c4 ?_;rw[if_pos c4]
     by_cases c5:o+(x.length:Int)>100
     ·rw[decide_eq_true (show(x.length:Int)>100-o by omega),if_pos c5]
      apply bb
      simp only[aE.j1];refine bx trivial ?_
      apply bb
      simp only[aE.j2];exact cH (by decide) (Ev.bind (ct T nx hT hA) (Ev.now _))
     ·rw[decide_eq_false (show¬(x.length:Int)>100-o by omega),if_neg c5]
      apply bb
      simp only[aE.j1];refine cH (by decide) ?_
      apply bb
      simp only[aE.j2];refine bx c4 ?_;have hd:=hf.d;obtain⟨q,rfl⟩:∃q:Nat,o=(q:Int):=⟨o.toNat,by omega⟩;refine eZ (nL T nx hT hA _ _ _ _ _ hf.e hf.t x q (by omega) _ (eu T p).1.f3 rfl hd) ?_;rw[aba,Int.toNat_natCast]
      rfl
    ·refine cH (by rw[hc];exact c4) ?_;rw[if_neg c4]
     apply bb
     simp only[aE.j1];refine cH (by decide) ?_
     apply bb
     simp only[aE.j2];refine cH (by rw[hc];exact c4) (Ev.bind (ct T nx hT hA) (eZ (Ev.now _) ?_));rw[hc]
   ·rw[decide_eq_false c3];exact bad (fun h=>c3 h.2)
  ·exact cH c2 (bad (fun h=>c2 ((ready_one T nx p).1 h.1).2))
 ·exact cH c1 (bad (fun h=>c1 ((ready_one T nx p).1 h.1).1))
end Go.Proofs.YtkfoopcpihmbmaaGreatDoor.Q
namespace Go.Proofs.YtkfoopcpihmbmaaGreatDoor.Q
open Go.RowKit Go.Proofs.YtkfoopcpihmbmaaGreatDoor.P Go.Proofs.ab.av Go.Proofs.ab.aQ Go.Proofs.ab.aT
theorem hH (p:ByteArray):(bk p).2.2=true↔((cw p).2=true∧p.toList≠([47]:List UInt8)):=by
 unfold bk
 by_cases c:(cw p).2=true
 ·rw[if_pos c]
  by_cases r:p.toList=([47]:List UInt8)
  ·have h0:(cw p).1.length=0:=by unfold cw;rw[if_pos r];rfl
   rw[if_pos h0];exact⟨fun h=>(by cases h),fun h=>absurd r h.2⟩
  ·have hne:¬(cw p).1.length=0:=by
    intro h0;have hne:=List.eq_nil_of_length_eq_zero h0;unfold cw at c hne;rw[if_neg r]at c hne;generalize (parts p.data.toList).map nZ=m at c hne
    cases m with
    |nil=>cases c
    |cons x l=>
     dsimp only at c hne
     by_cases d:x.toList=[]∧l≠[]∧ej l=true
     ·rw[if_pos d]at hne;exact d.2.1 hne
     ·rw[if_neg d]at c;cases c
   rw[if_neg hne];exact⟨fun _=>⟨c,r⟩,fun _=>rfl⟩
 ·rw[if_neg c];exact⟨fun h=>(by cases h),fun h=>absurd h.1 c⟩
theorem xi (a b:ByteArray):eqS a b=true↔a.toList=b.toList:=by unfold eqS;simp
theorem uV (l:List cD) (nm:ByteArray) (hl:l.length≤1048576):Ev (fun k=>eC.f k l nm) (delN nm l):=by
 have key:=down (n:=l.length) (P:=fun i=>∀acc:List cD,acc.length≤i→Ev (fun k=>eC.l0 k l nm acc (i:Nat)) (acc++delN nm (l.drop i))) (by
  intro acc _
  apply bb
  simp only[eC.l0];rw[List.drop_length]
  exact cH (by omega) (eZ (Ev.now _) (by simp[delN]))) (fun i hi ih acc ha=>by
  have hr:aA l (i:Int)=l[i]:=getD_at l _ i hi
  apply bb
  simp only[eC.l0,hr];rw[qa i l.length hi (by omega),List.drop_eq_getElem_cons hi];refine bx (by omega) (bx (by omega) ?_)
  by_cases c:l[i].f0.toList=nm.toList
  ·refine bx c (eZ (ih acc (by omega)) ?_);unfold delN;rw[List.filter_cons_of_neg (by rw[(xi _ _).2 c];decide)]
  ·refine cH c (bx (by omega) (eZ (ih (acc++[⟨l[i].f0,l[i].f1⟩]) (by simp;omega)) ?_))
   have hf:eqS l[i].f0 nm=false:=by
    cases h:eqS l[i].f0 nm with
    |false=>rfl
    |true=>exact absurd ((xi _ _).1 h) c
   unfold delN;rw[List.filter_cons_of_pos (by rw[hf];decide),List.append_assoc]
   rfl)
 have:=key [] (Nat.zero_le _)
 simpa [eC.f]using this
theorem abb (T:List aW) (p:ByteArray) (h:(cg T p).2.2=0):(cg T p).1=(cp T (bk p).1).1∧(cg T p).2.1=(bk p).2.1:=by
 have hsp:cg T p=(let s:=cp T (bk p).1;if s.2=0 then(if s.1.f1=2 then(s.1,(bk p).2.1,0)else(kG,⟨#[]⟩,3))else(kG,⟨#[]⟩,s.2)):=rfl;rw[hsp]at h⊢;dsimp only at h⊢
 by_cases c:(cp T (bk p).1).2=0
 ·rw[if_pos c]at h⊢
  by_cases d:(cp T (bk p).1).1.f1=2
  ·rw[if_pos d];exact⟨rfl,rfl⟩
  ·rw[if_neg d]at h;exact absurd h (by show¬(3:Int)=0;decide)
 ·rw[if_neg c]at h;exact absurd h c
theorem qI (T:List aW) (nx:Int) (p:ByteArray) (hT:T.length≤1048576) (hA:∀x∈T,fJ x) (hp:p.size≤1048576) (h:(cg T p).2.2=0):Ev (fun k=>fu.f k T nx p) (gy (gp (cg T p).1 (delN (cg T p).2.1 (cg T p).1.f4)) T,nx):=by
 have hsm:=kR T p hA;obtain⟨e1,e2⟩:=abb T p h;rw[e1]at hsm;rw[e1,e2];unfold fu.f;refine Ev.bind (ia p hp) (Ev.bind (jk T nx _ hT hA (km p)) ?_);simp only[sg];have he:=hsm.e;refine Ev.bind (uV _ _ he) (Ev.bind (je T nx (gp (cp T (bk p).1).1 (delN (bk p).2.1 (cp T (bk p).1).1.f4)) hT hA ⟨hsm.d,Nat.le_trans (List.length_filter_le ..) he,hsm.t⟩) (Ev.now _))
def wv (T:List aW) (nx:Int) (p:ByteArray):List aW×Int×Int:=if im T nx [p]=true∧p.toList≠([47]:List UInt8)then acT T nx p else(T,nx,1)
theorem oO (T:List aW) (nx:Int) (ps:List ByteArray) (h:im T nx ps=true):T.length≤30:=by
 simp only[im,fx,nG,Bool.and_eq_true,decide_eq_true_eq]at h
 omega
theorem abc (T:List aW) (nx:Int) (p:ByteArray) (hT:T.length≤1048576) (hs:∀x∈T,iy x) (hp:p.size≤1048576):Ev (fun k=>cv.f k T nx p) (wv T nx p):=by
 have hA:∀x∈T,fJ x:=fun x hx=>(hs x hx).a
 unfold cv.f;refine Ev.bind (ia p hp) (Ev.bind (gn T nx (by omega) hs) ?_)
 have bad:¬(im T nx [p]=true∧p.toList≠([47]:List UInt8))→Ev (fun k=>cv.j0 k p true T nx) (wv T nx p):=by
  intro c
  apply bb
  simp only[cv.j0];refine bx trivial (Ev.bind (ct T nx (by omega) hA) (eZ (Ev.now _) ?_));unfold wv;rw[if_neg c]
 by_cases c1:fx T nx=true
 ·refine bx c1 ?_
  by_cases c2:(bk p).2.2=true
  ·have⟨s1,s2⟩:=(hH p).1 c2;have h30:=oO T nx [p] ((ready_one T nx p).2 ⟨c1,s1⟩);rw[c2];unfold wv;rw[if_pos ⟨(ready_one T nx p).2 ⟨c1,s1⟩,s2⟩]
   apply bb
   simp only[cv.j0,Bool.not_true];refine cH (by decide) (Ev.bind (jk T nx p (by omega) hA hp) ?_);unfold acT;simp only[sg]
   by_cases d1:(cp T p).2=0
   ·refine bx d1 ?_;rw[if_pos d1];have hso:=(oM T p s1 s2 d1).1
    by_cases d2:(cp T p).1.f1=2
    ·refine bx d2 ?_;rw[if_pos d2]
     by_cases d3:(cp T p).1.f4.length>0
     ·exact bx (by omega) (Ev.bind (ct T nx (by omega) hA) (eZ (Ev.now _) (by rw[if_pos d3])))
     ·refine cH (by omega) ?_;rw[if_neg d3];have hsm:=kR T p hA;refine Ev.bind (qI T nx p (by omega) hA hp hso) ?_;have hlen:=fV (gp (cg T p).1 (delN (cg T p).2.1 (cg T p).1.f4)) T;exact Ev.bind (sA (gy (gp (cg T p).1 (delN (cg T p).2.1 (cg T p).1.f4)) T) nx (cp T p).1.f0 (by omega) (nE _ _ _ hsm (Nat.le_trans (List.length_filter_le ..) hsm.e) hA)) (Ev.now _)
    ·exact cH d2 (Ev.bind (ct T nx (by omega) hA) (eZ (Ev.now _) (by rw[if_neg d2])))
   ·exact cH d1 (Ev.bind (ct T nx (by omega) hA) (eZ (Ev.now _) (by rw[if_neg d1])))
  ·have c2':(bk p).2.2=false:=by simpa using c2
   rw[c2'];exact bad (fun h=>c2 ((hH p).2 ⟨((ready_one T nx p).1 h.1).2,h.2⟩))
 ·exact cH c1 (bad (fun h=>c1 ((ready_one T nx p).1 h.1).1))
end Go.Proofs.YtkfoopcpihmbmaaGreatDoor.Q
namespace Go.Proofs.YtkfoopcpihmbmaaGreatDoor.Q
open Go.RowKit Go.Proofs.YtkfoopcpihmbmaaGreatDoor.P Go.Proofs.ab.av Go.Proofs.ab.aQ Go.Proofs.ab.aT
theorem my {α:Type}(S R:List α) (k:Nat) (hk:k≤S.length) (y v:α):(S.take k++y::R).set ((k:Nat):Int).toNat v=S.take k++v::R:=by
 rw[Int.toNat_natCast,List.set_append,if_neg (by rw[List.length_take];omega),List.length_take,Nat.min_eq_left hk,Nat.sub_self,List.set_cons_zero]
theorem rU (a b:ByteArray):gtB a b=Op.bytesLess b.toList a.toList:=by
 unfold gtB;rw[Bool.not_or];exact tS _ _
abbrev keyE (e:cD):ByteArray:=e.f0
theorem qp (l:List cD) (nm:ByteArray) (ino:Int) (hl:l.length≤1048576):∀(k:Nat) (y:cD),k≤l.length→oX keyE z74 l nm l.length=oX keyE z74 l nm k→
  Ev (fun r=>cf.l0 r (l.take k++y::l.drop k) (k:Int) nm ino) (lp keyE z74 l ⟨nm,ino⟩)
 |0,y,_,hp=>by
  have hset:=my l (l.drop 0) 0 (Nat.zero_le _) y (⟨nm,ino⟩:cD)
  have he:l.take 0++(⟨nm,ino⟩:cD)::l.drop 0=lp keyE z74 l ⟨nm,ino⟩:=by unfold lp;rw[hp];simp[oX]
  apply bb
  simp only[cf.l0];refine cH (by omega) (bx (by omega) (bx (by simp only[List.length_append,List.length_cons];omega) (eZ (Ev.now _) ?_)));rw[hset,he]
 |k+1,y,hk,hp=>by
  have hw:wrap64 (((k+1:Nat):Int)-1)=(k:Int):=by rw[lV (by omega) (by omega)];omega
  have hlen:(l.take (k+1)++y::l.drop (k+1)).length=l.length+1:=by
   simp only[List.length_append,List.length_cons,List.length_take,List.length_drop];omega
  have hrd:aA (l.take (k+1)++y::l.drop (k+1)) (k:Int)=l[k]:=by
   refine(getD_at _ _ k (by rw[hlen];omega)).trans ?_;rw[List.getElem_append_left (by rw[List.length_take];omega),List.getElem_take]
  have hg:l.getD k z74=l[k]:=by rw[List.getD_eq_getElem?_getD,List.getElem?_eq_getElem hk];rfl
  have hset:∀v,(l.take (k+1)++y::l.drop (k+1)).set ((k+1:Nat):Int).toNat v=l.take (k+1)++v::l.drop (k+1):=my l _ (k+1) hk y
  have hsp:l.take (k+1)++l[k]::l.drop (k+1)=l.take k++l[k]::l.drop k:=by
   rw[List.drop_eq_getElem_cons hk,List.take_succ_eq_append_getElem hk,List.append_assoc];rfl
  rw[oX,hg,rU]at hp
  apply bb
  simp only[cf.l0,hw,hrd];refine bx (by omega) (bx (by omega) (bx (by rw[hlen];omega) ?_))
  by_cases c:Op.bytesLess nm.toList l[k].f0.toList=true
  ·rw[if_pos c]at hp;refine bx c (bx (by omega) (bx (by rw[hlen];omega) ?_));rw[hset,show(⟨l[k].f0,l[k].f1⟩:cD)=l[k]from rfl,hsp];exact qp l nm ino hl k l[k] (by omega) hp
  ·rw[if_neg c]at hp;refine cH c (bx (by omega) (bx (by rw[hlen];omega) (eZ (Ev.now _) ?_)))
   have he:l.take (k+1)++(⟨nm,ino⟩:cD)::l.drop (k+1)=lp keyE z74 l ⟨nm,ino⟩:=by unfold lp;rw[hp];simp
   rw[hset,he]
theorem uW (l:List cD) (nm:ByteArray) (ino:Int) (hl:l.length≤1048576) (hs:nJ keyE l):Ev (fun k=>cf.f k l nm ino) (mn nm ino l):=by
 have h:=qp l nm ino hl l.length ⟨nm,ino⟩ (Nat.le_refl _) rfl;rw[List.take_length,List.drop_length]at h;have hi:=x_ l ⟨nm,ino⟩ z74 hs;unfold cf.f;simp only[Option.bind_some,List.nil_append];refine bx (by simp;omega) (bx (by simp;omega) ?_);rw[show(wrap64 (((l++[(⟨nm,ino⟩:cD)]).length:Int)-1))=(l.length:Int) by rw[List.length_append,List.length_singleton,lV (by omega) (by omega)];omega];exact eZ h hi
def jf (T:List aW) (p:ByteArray) (fr:Int):aW×ByteArray×Int:=
 if(bk p).2.2=true then
  (if(cp T (bk p).1).2=0 then
   (if(cp T (bk p).1).1.f1=2 then
    (if iC (bk p).2.1 (cp T (bk p).1).1.f4=0 then
     (if(10:Int)≤((cp T (bk p).1).1.f4.length:Int)∧(cp T (bk p).1).1.f0≠fr then(kG,⟨#[]⟩,5)else((cp T (bk p).1).1,(bk p).2.1,0))
     else(kG,⟨#[]⟩,4))
    else(kG,⟨#[]⟩,3))
   else(kG,⟨#[]⟩,(cp T (bk p).1).2))
 else(kG,⟨#[]⟩,1)
theorem qq (T:List aW) (nx:Int) (p:ByteArray) (fr:Int) (hT:T.length≤1048576) (hA:∀x∈T,fJ x) (hp:p.size≤1048576):Ev (fun k=>fU.f k T nx p fr) (xb (jf T p fr)):=by
 unfold fU.f jf;refine Ev.bind (ia p hp) ?_;have hps:=km p;have hsm:=gm T (bk p).1 hA;generalize bk p=q at*
 by_cases c1:q.2.2=true
 ·refine bx c1 (Ev.bind (jk T nx _ hT hA hps) ?_);rw[if_pos c1];simp only[sg];generalize cp T q.1=s at*
  by_cases c2:s.2=0
  ·refine bx c2 ?_;rw[if_pos c2]
   by_cases c3:s.1.f1=2
   ·refine bx c3 (Ev.bind (rI _ _ _ _ _ _ _ (by have:=hsm.e;omega)) ?_);rw[if_pos c3]
    by_cases c4:iC q.2.1 s.1.f4=0
    ·refine bx c4 ?_;rw[if_pos c4]
     by_cases c5:(10:Int)≤(s.1.f4.length:Int)
     ·refine bx c5 ?_
      by_cases c6:s.1.f0=fr
      ·refine bx c6 (eZ (Ev.now _) ?_);rw[if_neg (fun h=>h.2 c6)];rfl
      ·refine cH c6 (eZ (Ev.now _) ?_);rw[if_pos ⟨c5,c6⟩];rfl
     ·refine cH c5 (eZ (Ev.now _) ?_);rw[if_neg (fun h=>c5 h.1)];rfl
    ·refine cH c4 (eZ (Ev.now _) ?_);rw[if_neg c4];rfl
   ·refine cH c3 (eZ (Ev.now _) ?_);rw[if_neg c3];rfl
  ·refine cH c2 (eZ (Ev.now _) ?_);rw[if_neg c2];rfl
 ·refine cH c1 (eZ (Ev.now _) ?_);rw[if_neg c1];rfl
theorem sE (x:aW) (h:nN x=true):nJ keyE x.f4:=by
 simp only[nN,iV,qj,Bool.and_eq_true,decide_eq_true_eq]at h;obtain⟨⟨⟨_,he⟩,_⟩,_⟩:=h;exact(wk x.f4 none he.1).2
theorem uX (T:List aW) (nx:Int) (h:fx T nx=true):nx≤1000:=by
 simp only[fx,nG,Bool.and_eq_true,decide_eq_true_eq]at h
 omega
theorem sF (T:List aW) (nx:Int) (p:ByteArray) (h:fx T nx=true) (h1:(cw p).2=true) (h2:p.toList≠([47]:List UInt8)):
  ((cg T p).2.2≠0→(jf T p 0).2.2=(cg T p).2.2)∧((cg T p).2.2=0→iC (cg T p).2.1 (cg T p).1.f4≠0→(jf T p 0).2.2=4)∧
   ((cg T p).2.2=0→iC (cg T p).2.1 (cg T p).1.f4=0→(cg T p).1.f4.length=10→(jf T p 0).2.2=5)∧
   ((cg T p).2.2=0→iC (cg T p).2.1 (cg T p).1.f4=0→(cg T p).1.f4.length≠10→jf T p 0=((cg T p).1,(cg T p).2.1,0)):=by
 have hok:=(hH p).2 ⟨h1,h2⟩;have t:=ib T nx h;have hin:=lL T p;have hsp:cg T p=(let s:=cp T (bk p).1;if s.2=0 then(if s.1.f1=2 then(s.1,(bk p).2.1,0)else(kG,⟨#[]⟩,3))else(kG,⟨#[]⟩,s.2)):=rfl;rw[hsp]at hin⊢;unfold jf;rw[if_pos hok];dsimp only at hin⊢;generalize cp T (bk p).1=s at*
 by_cases c2:s.2=0
 ·rw[if_pos c2]at hin⊢
  by_cases c3:s.1.f1=2
  ·rw[if_pos c3]at hin⊢;have hm:=(hin rfl).1;have h10:=(iz _ (t.ok _ hm)).1;have hpos:=uC _ (t.ok _ hm);dsimp only at hm h10 hpos⊢;refine⟨fun e=>absurd rfl e,fun _ e=> ?_,fun _ e e2=> ?_,fun _ e e2=> ?_⟩
   ·rw[if_pos c2,if_pos c3,if_neg e]
   ·rw[if_pos c2,if_pos c3,if_pos e,if_pos ⟨by omega,by omega⟩]
   ·rw[if_pos c2,if_pos c3,if_pos e,if_neg (fun h=>by omega)]
  ·rw[if_neg c3]at hin⊢;refine⟨fun _=>by rw[if_pos c2,if_neg c3],fun e=>absurd e (by show¬(3:Int)=0;decide),fun e=>absurd e (by show¬(3:Int)=0;decide),fun e=>absurd e (by show¬(3:Int)=0;decide)⟩
 ·rw[if_neg c2]at hin⊢;exact⟨fun _=>by rw[if_neg c2],fun e=>absurd e c2,fun e=>absurd e c2,fun e=>absurd e c2⟩
theorem abO (T:List aW) (nx:Int) (p:ByteArray) (kind:Int) (hT:T.length<1048576) (hs:∀x∈T,iy x) (hp:p.size≤1048576) (hn: -1048576≤nx∧nx≤1048576):Ev (fun k=>bw.f k T nx p kind) (mw T nx p kind):=by
 have hA:∀x∈T,fJ x:=fun x hx=>(hs x hx).a
 unfold bw.f;refine Ev.bind (gn T nx (by omega) hs) ?_
 by_cases c1:fx T nx=true
 ·refine bx c1 (Ev.bind (qq T nx p 0 (by omega) hA hp) ?_);have t:=ib T nx c1;have hl30:=t.len;have hn1:=uX T nx c1
  -- what hands back beside a code
  have bad:∀(c:Int) (x:aW) (nm:ByteArray),c≠0→Ev (fun k=>bw.j1 k kind nm c T nx x.f0 x.f1 x.f2 x.f3 x.f4 x.f5) (T,nx,c):=by
   intro c x nm hc
   apply bb
   simp only[bw.j1];exact cH hc (Ev.bind (ct T nx (by omega) hA) (Ev.now _))
  by_cases c2:(cw p).2=true∧p.toList≠([47]:List UInt8)
  ·obtain⟨e1,e2,e3,e4⟩:=sF T nx p c1 c2.1 c2.2;unfold mw;rw[if_pos ⟨(ready_one T nx p).2 ⟨c1,c2.1⟩,c2.2⟩];simp only[xb]
   by_cases d1:(cg T p).2.2=0
   ·rw[if_pos d1]
    by_cases d2:iC (cg T p).2.1 (cg T p).1.f4=0
    ·rw[if_pos d2]
     by_cases d3:(cg T p).1.f4.length=10
     ·have e:=e3 d1 d2 d3;rw[if_pos (Or.inl d3)];refine cH (by rw[e];decide) ?_
      apply bb
      simp only[bw.j0];refine cH (by decide) ?_;rw[e];exact bad 5 _ _ (by decide)
     ·have e:=e4 d1 d2 d3;rw[e];have hin:=lL T p d1;have hsm:=kR T p hA;have hso:=sE _ (t.ok _ hin.1);generalize cg T p=s at*;refine bx rfl ?_
      by_cases d4:T.length=30
      ·rw[if_pos (Or.inr (Or.inl d4))];refine bx (by omega) ?_
       apply bb
       simp only[bw.j0];exact bx trivial (bad 5 s.1 s.2.1 (by decide))
      ·refine cH (by omega) ?_
       by_cases d5:nx=1000
       ·rw[if_pos (Or.inr (Or.inr d5)),decide_eq_true (show nx≥1000 by omega)]
        apply bb
        simp only[bw.j0];exact bx trivial (bad 5 s.1 s.2.1 (by decide))
       ·rw[if_neg (fun h=>by rcases h with h|h|h;exact d3 h;exact d4 h;exact d5 h),decide_eq_false (show¬nx≥1000 by omega)];have he:=hsm.e;have hlen:=od s.2.1 nx s.1.f4;have h10:=(iz _ (t.ok _ hin.1)).1;have hx1:fJ (gp s.1 (mn s.2.1 nx s.1.f4)):=⟨hsm.d,by show(mn s.2.1 nx s.1.f4).length≤1048576;omega,hsm.t⟩
        apply bb
        simp only[bw.j0];refine cH (by decide) ?_
        apply bb
        simp only[bw.j1];refine bx trivial (Ev.bind (ct T nx (by omega) hA) (Ev.bind (uW s.1.f4 s.2.1 nx he hso) (Ev.bind (je T nx (gp s.1 (mn s.2.1 nx s.1.f4)) (by omega) hA hx1) ?_)));have hl2:=fV (gp s.1 (mn s.2.1 nx s.1.f4)) T;refine Ev.bind (je (gy (gp s.1 (mn s.2.1 nx s.1.f4)) T) nx ⟨nx,kind,1,[],[],[]⟩ (by omega) (fun y hy=> ?_) ⟨by simp,by simp,by simp⟩) (eZ (Ev.now _) ?_)
        ·rcases lJ _ _ _ hy with rfl|hy
         ·exact hx1
         ·exact hA y hy
        ·rw[lV (n:=nx+1) (by omega) (by omega)]
    ·have e:=e2 d1 d2;rw[if_neg d2];refine cH (by rw[e];decide) ?_
     apply bb
     simp only[bw.j0];refine cH (by decide) ?_;rw[e];exact bad 4 _ _ (by decide)
   ·have e:=e1 d1;rw[if_neg d1];refine cH (by rw[e];exact d1) ?_
    apply bb
    simp only[bw.j0];refine cH (by decide) ?_;rw[e];exact bad _ _ _ d1
  ·have hq:¬(bk p).2.2=true:=fun h=>c2 ((hH p).1 h)
   have e:jf T p 0=(kG,⟨#[]⟩,1):=by unfold jf;rw[if_neg hq]
   rw[e];unfold mw;rw[if_neg (fun h=>c2 ⟨((ready_one T nx p).1 h.1).2,h.2⟩)];refine cH (by show¬(1:Int)=0;decide) ?_
   apply bb
   simp only[bw.j0];refine cH (by decide) ?_;exact bad 1 kG ⟨#[]⟩ (by decide)
 ·refine cH c1 (Ev.bind (ct T nx (by omega) hA) (eZ (Ev.now _) ?_));unfold mw;rw[if_neg (fun h=>c1 ((ready_one T nx p).1 h.1).1)]
theorem abd (T:List aW) (nx:Int) (p:ByteArray) (kind:Int) (h:¬im T nx [p]=true):mw T nx p kind=(T,nx,1):=by
 unfold mw;rw[if_neg (fun c=>h c.1)]
theorem uY (T:List aW) (nx:Int) (p:ByteArray) (kind:Int) (hT:T.length≤1048576) (hs:∀x∈T,iy x) (hp:p.size≤1048576):Ev (fun k=>bw.f k T nx p kind) (mw T nx p kind):=by
 by_cases c:fx T nx=true
 ·have h30:T.length≤30:=(ib T nx c).len
  have hn:2≤nx∧nx≤1000:=by
   simp only[fx,nG,Bool.and_eq_true,decide_eq_true_eq]at c
   omega
  exact abO T nx p kind (by omega) hs hp (by omega)
 ·rw[abd T nx p kind (fun h=>c ((ready_one T nx p).1 h).1)];unfold bw.f;refine Ev.bind (gn T nx hT hs) ?_;exact cH c (Ev.bind (ct T nx hT (fun x hx=>(hs x hx).a)) (Ev.now _))
theorem tE (T:List aW) (nx:Int) (p:ByteArray) (hT:T.length≤1048576) (hs:∀x∈T,iy x) (hp:p.size≤1048576):Ev (fun k=>il.f k T nx p) (mw T nx p 1):=by
 unfold il.f;exact Ev.bind (uY T nx p 1 hT hs hp) (Ev.now _)
theorem uZ (T:List aW) (nx:Int) (p:ByteArray) (hT:T.length≤1048576) (hs:∀x∈T,iy x) (hp:p.size≤1048576):Ev (fun k=>iK.f k T nx p) (mw T nx p 2):=by
 unfold iK.f;exact Ev.bind (uY T nx p 2 hT hs hp) (Ev.now _)
end Go.Proofs.YtkfoopcpihmbmaaGreatDoor.Q
namespace Go.Proofs.YtkfoopcpihmbmaaGreatDoor.Q
open Go.RowKit Go.Proofs.YtkfoopcpihmbmaaGreatDoor.P Go.Proofs.ab.av Go.Proofs.ab.aQ Go.Proofs.ab.aT
def abe (T:List aW) (nx:Int) (p q:ByteArray):List aW×Int×Int:=
 if(eu T p).2=0 then
  (if(cg T q).2.2=0 then
   (if iC (cg T q).2.1 (cg T q).1.f4=0 then
    (if(cg T q).1.f4.length=10 then(T,nx,5)
     else(gy (pS (eu T p).1 ((eu T p).1.f2+1)) (gy (gp (cg T q).1 (mn (cg T q).2.1 (eu T p).1.f0 (cg T q).1.f4)) T),nx,0))
    else(T,nx,4))
   else(T,nx,(cg T q).2.2))
 else(T,nx,(eu T p).2)
def acU (T:List aW) (nx:Int) (p:ByteArray):List aW×Int×Int:=
 if(eu T p).2=0 then
  (if(eu T p).1.f2-1=0 then(mv (eu T p).1.f0 (gy (gp (cg T p).1 (delN (cg T p).2.1 (cg T p).1.f4)) T),nx,0)
   else(gy (pS (eu T p).1 ((eu T p).1.f2-1)) (gy (gp (cg T p).1 (delN (cg T p).2.1 (cg T p).1.f4)) T),nx,0))
 else(T,nx,(eu T p).2)
end Go.Proofs.YtkfoopcpihmbmaaGreatDoor.Q
namespace Go.Proofs.YtkfoopcpihmbmaaGreatDoor.Q
open Go.RowKit Go.Proofs.YtkfoopcpihmbmaaGreatDoor.P Go.Proofs.ab.av Go.Proofs.ab.aQ Go.Proofs.ab.aT
theorem mz (T:List aW) (nx:Int) (p q:ByteArray):im T nx [p,q]=true↔(fx T nx=true∧(cw p).2=true∧(cw q).2=true):=by
 unfold im;simp only[List.all_cons,List.all_nil,Bool.and_true,Bool.and_eq_true];exact⟨fun h=>⟨h.2,h.1.1,h.1.2⟩,fun h=>⟨⟨h.2.1,h.2.2⟩,h.1⟩⟩
theorem wx (x:aW) (h:nN x=true):0≤x.f2∧x.f2≤1000:=by
 simp only[nN,iV,Bool.and_eq_true,decide_eq_true_eq]at h
 omega
theorem yb (T:List aW) (st:(T.map (·.f0)).Pairwise (·<·)) (a b:aW) (ha:dz T a.f0=true) (hb:dz T b.f0=true) (hne:a.f0≠b.f0):gy a (gy b T)=gy b (gy a T):=by
 have h1:∀z:aW,∀x∈T,(jo z x).f0=x.f0:=fun z x _=>uS z x
 have s1:∀z:aW,((T.map (jo z)).map (·.f0)).Pairwise (·<·):=fun z=>by rw[wh T _ (h1 z)];exact st
 rw[oh T st b hb,oh T st a ha,oh _ (s1 b) a (by rw[pY _ T (h1 b)];exact ha),oh _ (s1 a) b (by rw[pY _ T (h1 a)];exact hb),List.map_map,List.map_map]
 refine List.map_congr_left fun x _=> ?_
 simp only[Function.comp_apply]
 by_cases c1:x.f0=a.f0
 ·have c2:¬x.f0=b.f0:=fun h=>hne (c1.symm.trans h)
  have e1:jo a x=a:=by unfold jo;rw[if_pos c1]
  have e2:jo b x=x:=by unfold jo;rw[if_neg c2]
  have e3:jo b a=a:=by unfold jo;rw[if_neg hne]
  rw[e2,e1,e3]
 ·have e1:jo a x=x:=by unfold jo;rw[if_neg c1]
  rw[e1]
  by_cases c2:x.f0=b.f0
  ·have e2:jo b x=b:=by unfold jo;rw[if_pos c2]
   have e3:jo a b=b:=by unfold jo;rw[if_neg (fun h=>hne h.symm)]
   rw[e2,e3]
  ·have e2:jo b x=x:=by unfold jo;rw[if_neg c2]
   rw[e2,e1]
def rV (T:List aW) (nx:Int) (p q:ByteArray):List aW×Int×Int:=if im T nx [p,q]=true∧q.toList≠([47]:List UInt8)then abe T nx p q else(T,nx,1)
theorem rW (T:List aW) (nx:Int) (p:ByteArray) (h:fx T nx=true): -1048576≤(eu T p).1.f2∧(eu T p).1.f2≤1048576:=by
 have t:=ib T nx h
 have e:(eu T p).1=(cp T p).1:=by unfold eu;split<;>rfl
 rw[e];rcases kH T p with h|h
 ·rw[h];decide
 ·have:=wx _ (t.ok _ h);omega
theorem wy (T:List aW) (nx:Int) (p q:ByteArray) (hT:T.length≤1048576) (hs:∀x∈T,iy x) (hp:p.size≤1048576) (hq:q.size≤1048576):Ev (fun k=>dt.f k T nx p q) (rV T nx p q):=by
 have hA:∀x∈T,fJ x:=fun x hx=>(hs x hx).a
 unfold dt.f;refine Ev.bind (jd p hp) (Ev.bind (ia q hq) (Ev.bind (gn T nx (by omega) hs) ?_))
 have bad:¬(im T nx [p,q]=true∧q.toList≠([47]:List UInt8))→Ev (fun k=>dt.j0 k p q true T nx) (rV T nx p q):=by
  intro c
  apply bb
  simp only[dt.j0];refine bx trivial (Ev.bind (ct T nx (by omega) hA) (eZ (Ev.now _) ?_));unfold rV;rw[if_neg c]
 by_cases c1:fx T nx=true
 ·refine bx c1 ?_
  by_cases c0:(cw p).2=true
  ·refine bx c0 ?_
   by_cases c2:(bk q).2.2=true
   ·have⟨s1,s2⟩:=(hH q).1 c2;have hrd:=(mz T nx p q).2 ⟨c1,c0,s1⟩;have h30:=oO T nx [p,q] hrd;rw[c2];unfold rV;rw[if_pos ⟨hrd,s2⟩]
    apply bb
    simp only[dt.j0,Bool.not_true];refine cH (by decide) (Ev.bind (oN T nx p (by omega) hA hp) ?_);unfold abe;have hcode:=ma T p;simp only[sg]
    by_cases d1:(eu T p).2=0
    ·refine bx (hcode.trans d1) ?_;rw[if_pos d1,mb T p d1];obtain⟨e1,e2,e3,e4⟩:=sF T nx q c1 s1 s2;refine Ev.bind (qq T nx q 0 (by omega) hA hq) ?_;simp only[xb]
     by_cases d2:(cg T q).2.2=0
     ·rw[if_pos d2]
      by_cases d3:iC (cg T q).2.1 (cg T q).1.f4=0
      ·rw[if_pos d3]
       by_cases d4:(cg T q).1.f4.length=10
       ·rw[if_pos d4];have e:=e3 d2 d3 d4;exact cH (by rw[e];decide) (Ev.bind (ct T nx (by omega) hA) (eZ (Ev.now _) (by rw[e])))
       ·rw[if_neg d4];have e:=e4 d2 d3 d4;rw[e];have t:=(nD T nx).1 c1;have hin:=lL T q d2;have hfi:=oo T p d1;have hsm:=kR T q hA;have hfm:=l_ T p hA;have hlk:=rW T nx p c1;have hso:=sE _ (t.ok _ hin.1);generalize cg T q=s at*;generalize eu T p=f at*
        have hne:f.1.f0≠s.1.f0:=fun h=>by
         have:=uniq T t.st _ _ hfi.1 hin.1 h;rw[this]at hfi;have h1:=hfi.2;have h2:=hin.2.1
         omega
        have hlen:=od s.2.1 f.1.f0 s.1.f4;have h10:=(iz _ (t.ok _ hin.1)).1;have hx1:fJ (pS f.1 (f.1.f2+1)):=⟨hfm.d,hfm.e,hfm.t⟩;have hx2:fJ (gp s.1 (mn s.2.1 f.1.f0 s.1.f4)):=⟨hsm.d,by show(mn s.2.1 f.1.f0 s.1.f4).length≤1048576;omega,hsm.t⟩;have hw:wrap64 (f.1.f2+1)=f.1.f2+1:=lV (by omega) (by omega);simp only[hw];refine bx trivial (Ev.bind (uW s.1.f4 s.2.1 f.1.f0 (by omega) hso) (Ev.bind (je T nx (pS f.1 (f.1.f2+1)) (by omega) hA hx1) ?_));have hl2:=fV (pS f.1 (f.1.f2+1)) T;refine Ev.bind (je (gy (pS f.1 (f.1.f2+1)) T) nx (gp s.1 (mn s.2.1 f.1.f0 s.1.f4)) (by omega) (fun y hy=> ?_) hx2) (eZ (Ev.now _) ?_)
        ·rcases lJ _ _ _ hy with rfl|hy
         ·exact hx1
         ·exact hA y hy
        ·have hc:=yb T t.st (gp s.1 (mn s.2.1 f.1.f0 s.1.f4)) (pS f.1 (f.1.f2+1)) (show dz T s.1.f0=true from lK T _ hin.1) (show dz T f.1.f0=true from lK T _ hfi.1) (fun h=>hne h.symm);rw[hc]
      ·rw[if_neg d3];have e:=e2 d2 d3;exact cH (by rw[e];decide) (Ev.bind (ct T nx (by omega) hA) (eZ (Ev.now _) (by rw[e])))
     ·rw[if_neg d2];have e:=e1 d2;exact cH (by rw[e];exact d2) (Ev.bind (ct T nx (by omega) hA) (eZ (Ev.now _) (by rw[e])))
    ·refine cH (fun h=>d1 (hcode.symm.trans h)) (Ev.bind (ct T nx (by omega) hA) (eZ (Ev.now _) ?_));rw[if_neg d1,hcode]
   ·have c2':(bk q).2.2=false:=by simpa using c2
    rw[c2'];exact bad (fun h=>c2 ((hH q).2 ⟨((mz T nx p q).1 h.1).2.2,h.2⟩))
  ·exact cH c0 (bad (fun h=>c0 ((mz T nx p q).1 h.1).2.1))
 ·exact cH c1 (bad (fun h=>c1 ((mz T nx p q).1 h.1).1))
end Go.Proofs.YtkfoopcpihmbmaaGreatDoor.Q
namespace Go.Proofs.YtkfoopcpihmbmaaGreatDoor.Q
open Go.RowKit Go.Proofs.YtkfoopcpihmbmaaGreatDoor.P Go.Proofs.ab.av Go.Proofs.ab.aQ Go.Proofs.ab.aT
abbrev tF (a:bj):ByteArray:=a.f0
def u_ (x:aW) (t:List bj):aW:=⟨x.f0,x.f1,x.f2,x.f3,x.f4,t⟩
def qR (nm:ByteArray) (l:List bj):List bj:=l.filter fun a=> !(a.f0.toList==nm.toList)
def vk (T:List aW) (nx:Int) (x:aW) (nm v:ByteArray):List aW×Int×Int:=
 if v.toList=([]:List UInt8)then(gy (u_ x (qR nm x.f5)) T,nx,0)
 else if 4≤(qR nm x.f5).length then(T,nx,5)else(gy (u_ x (lp tF oU (qR nm x.f5) ⟨nm,v⟩)) T,nx,0)
def rX (T:List aW) (nx:Int) (p nm v:ByteArray):List aW×Int×Int:=
 if im T nx [p]=true∧fa nm=true∧¬(v.size:Int)>16 then(if(cp T p).2=0 then vk T nx (cp T p).1 nm v else(T,nx,(cp T p).2))else(T,nx,1)
theorem wz (x:aW) (h:nN x=true):nJ tF x.f5∧x.f5.length≤4:=by
 simp only[nN,iV,pO,Bool.and_eq_true,decide_eq_true_eq]at h;obtain⟨⟨_,ha⟩,_⟩:=h;exact⟨(uR x.f5 none ha.1).2,ha.2⟩
theorem rY (T:List aW) (nx:Int) (p:ByteArray) (h:fx T nx=true):nJ tF (cp T p).1.f5∧(cp T p).1.f5.length≤4:=by
 rcases kH T p with e|e
 ·rw[e];exact⟨List.Pairwise.nil,by decide⟩
 ·exact wz _ ((ib T nx h).ok _ e)
theorem rZ (l:List bj) (nm v:ByteArray) (hl:l.length≤1048576):∀(k:Nat) (y:bj),k≤l.length→oX tF oU l nm l.length=oX tF oU l nm k→
  Ev (fun r=>cm.l0 r (l.take k++y::l.drop k) (k:Int) nm v) (lp tF oU l ⟨nm,v⟩)
 |0,y,_,hp=>by
  have hset:=my l (l.drop 0) 0 (Nat.zero_le _) y (⟨nm,v⟩:bj)
  have he:l.take 0++(⟨nm,v⟩:bj)::l.drop 0=lp tF oU l ⟨nm,v⟩:=by unfold lp;rw[hp];simp[oX]
  apply bb
  simp only[cm.l0];refine cH (by omega) (bx (by omega) (bx (by simp only[List.length_append,List.length_cons];omega) (eZ (Ev.now _) ?_)));rw[hset,he]
 |k+1,y,hk,hp=>by
  have hw:wrap64 (((k+1:Nat):Int)-1)=(k:Int):=by rw[lV (by omega) (by omega)];omega
  have hlen:(l.take (k+1)++y::l.drop (k+1)).length=l.length+1:=by
   simp only[List.length_append,List.length_cons,List.length_take,List.length_drop];omega
  have hrd:bf (l.take (k+1)++y::l.drop (k+1)) (k:Int)=l[k]:=by
   refine(getD_at _ _ k (by rw[hlen];omega)).trans ?_;rw[List.getElem_append_left (by rw[List.length_take];omega),List.getElem_take]
  have hg:l.getD k oU=l[k]:=by rw[List.getD_eq_getElem?_getD,List.getElem?_eq_getElem hk];rfl
  have hset:∀v,(l.take (k+1)++y::l.drop (k+1)).set ((k+1:Nat):Int).toNat v=l.take (k+1)++v::l.drop (k+1):=my l _ (k+1) hk y
  have hsp:l.take (k+1)++l[k]::l.drop (k+1)=l.take k++l[k]::l.drop k:=by
   rw[List.drop_eq_getElem_cons hk,List.take_succ_eq_append_getElem hk,List.append_assoc];rfl
  rw[oX,hg,rU]at hp
  apply bb
  simp only[cm.l0,hw,hrd];refine bx (by omega) (bx (by omega) (bx (by rw[hlen];omega) ?_))
  by_cases c:Op.bytesLess nm.toList l[k].f0.toList=true
  ·rw[if_pos c]at hp;refine bx c (bx (by omega) (bx (by rw[hlen];omega) ?_));rw[hset,show(⟨l[k].f0,l[k].f1⟩:bj)=l[k]from rfl,hsp];exact rZ l nm v hl k l[k] (by omega) hp
  ·rw[if_neg c]at hp;refine cH c (bx (by omega) (bx (by rw[hlen];omega) (eZ (Ev.now _) ?_)))
   have he:l.take (k+1)++(⟨nm,v⟩:bj)::l.drop (k+1)=lp tF oU l ⟨nm,v⟩:=by unfold lp;rw[hp];simp
   rw[hset,he]
theorem yc (l:List bj) (nm v:ByteArray) (hl:l.length≤1048576):Ev (fun k=>cm.f k l nm v) (lp tF oU l ⟨nm,v⟩):=by
 have h:=rZ l nm v hl l.length ⟨nm,v⟩ (Nat.le_refl _) rfl;rw[List.take_length,List.drop_length]at h;unfold cm.f;simp only[Option.bind_some,List.nil_append];refine bx (by simp;omega) (bx (by simp;omega) ?_);rw[show(wrap64 (((l++[(⟨nm,v⟩:bj)]).length:Int)-1))=(l.length:Int) by rw[List.length_append,List.length_singleton,lV (by omega) (by omega)];omega];exact h
theorem sets (T:List aW) (nx:Int) (x:aW) (t:List bj) (hT:T.length≤1048576) (hA:∀x∈T,fJ x) (hx:fJ x) (ht:t.length≤1048576):Ev (fun k=>aD.f k T nx x.f0 x.f1 x.f2 x.f3 x.f4 t) (gy (u_ x t) T,nx):=
 je T nx (u_ x t) hT hA ⟨hx.d,hx.e,ht⟩
theorem tG (T:List aW) (nx:Int) (x:aW) (nm v:ByteArray) (hT:T.length≤1048576) (hA:∀x∈T,fJ x) (hx:fJ x) (h4:x.f5.length≤4):
  Ev (fun k=>ck.l0 k nm v [] 0 T nx x.f0 x.f1 x.f2 x.f3 x.f4 x.f5) (vk T nx x nm v):=by
 have key:=down (n:=x.f5.length) (P:=fun i=>∀acc:List bj,acc.length≤i→acc++qR nm (x.f5.drop i)=qR nm x.f5→Ev (fun k=>ck.l0 k nm v acc (i:Nat) T nx x.f0 x.f1 x.f2 x.f3 x.f4 x.f5) (vk T nx x nm v)) (by
  intro acc hl he;rw[List.drop_length]at he
  have he:acc=qR nm x.f5:=by simpa [qR]using he
  subst he
  apply bb
  simp only[ck.l0];refine cH (by omega) ?_;unfold vk
  by_cases c:v.toList=([]:List UInt8)
  ·rw[if_pos c];exact bx c (Ev.bind (sets T nx x _ hT hA hx (by omega)) (Ev.now _))
  ·rw[if_neg c];refine cH c ?_
   by_cases c4:4≤(qR nm x.f5).length
   ·rw[if_pos c4];exact bx (by omega) (Ev.bind (ct T nx hT hA) (Ev.now _))
   ·rw[if_neg c4];refine cH (by omega) (Ev.bind (yc _ nm v (by omega)) (Ev.bind (sets T nx x _ hT hA hx ?_) (Ev.now _)));unfold lp;simp only[List.length_append,List.length_take,List.length_drop,List.length_singleton]
    omega) (fun i hi ih acc ha he=>by
  have hr:bf x.f5 (i:Int)=x.f5[i]:=getD_at _ _ i hi;rw[List.drop_eq_getElem_cons hi]at he
  apply bb
  simp only[ck.l0,hr];rw[qa i x.f5.length hi (by omega)];refine bx (by omega) (bx (by omega) ?_)
  by_cases c:x.f5[i].f0.toList=nm.toList
  ·refine bx c (ih acc (by omega) ?_);unfold qR at he⊢;rw[List.filter_cons_of_neg (by simp[c])]at he;exact he
  ·refine cH c (bx (by omega) (ih (acc++[⟨x.f5[i].f0,x.f5[i].f1⟩]) (by simp;omega) ?_));unfold qR at he⊢;rw[List.filter_cons_of_pos (by simp[c])]at he;rw[List.append_assoc]
   exact he)
 exact key [] (Nat.zero_le _) (by rw[List.drop_zero,List.nil_append])
theorem yd (T:List aW) (nx:Int) (p nm v:ByteArray) (hT:T.length≤1048576) (hs:∀x∈T,iy x) (hp:p.size≤1048576) (hn:nm.size≤1048576):Ev (fun k=>ck.f k T nx p nm v) (rX T nx p nm v):=by
 have hA:∀x∈T,fJ x:=fun x hx=>(hs x hx).a
 have bad:¬(im T nx [p]=true∧fa nm=true∧¬(v.size:Int)>16)→Ev (fun k=>ck.j0 k p nm v true T nx) (rX T nx p nm v):=by
  intro c
  apply bb
  simp only[ck.j0];refine bx trivial (Ev.bind (ct T nx hT hA) (eZ (Ev.now _) ?_));unfold rX;rw[if_neg c]
 unfold ck.f;refine Ev.bind (jd p hp) (Ev.bind (gn T nx hT hs) ?_)
 by_cases c1:fx T nx=true
 ·refine bx c1 ?_
  by_cases c2:(cw p).2=true
  ·have hrd:=(ready_one T nx p).2 ⟨c1,c2⟩;refine bx c2 (Ev.bind (kF nm (by omega)) ?_)
   by_cases c3:fa nm=true
   ·refine bx c3 ?_
    by_cases c4:(v.size:Int)>16
    ·rw[decide_eq_true c4]
     exact bad fun h=>h.2.2 c4
    ·rw[decide_eq_false c4];unfold rX;rw[if_pos ⟨hrd,c3,c4⟩]
     apply bb
     simp only[ck.j0];refine cH (by decide) (Ev.bind (jk T nx p hT hA hp) ?_);have hsm:=gm T p hA;have h4:=(rY T nx p c1).2;simp only[sg];generalize cp T p=s at*
     by_cases d1:s.2=0
     ·refine bx d1 ?_;rw[if_pos d1];exact tG T nx s.1 nm v hT hA hsm h4
     ·refine cH d1 (Ev.bind (ct T nx hT hA) (eZ (Ev.now _) ?_));rw[if_neg d1]
   ·exact cH c3 (bad fun h=>c3 h.2.1)
  ·exact cH c2 (bad fun h=>c2 ((ready_one T nx p).1 h.1).2)
 ·exact cH c1 (bad fun h=>c1 ((ready_one T nx p).1 h.1).1)
end Go.Proofs.YtkfoopcpihmbmaaGreatDoor.Q
namespace Go.Proofs.YtkfoopcpihmbmaaGreatDoor.Q
open Go.RowKit Go.Proofs.YtkfoopcpihmbmaaGreatDoor.P Go.Proofs.ab.av Go.Proofs.ab.aQ Go.Proofs.ab.aT
theorem toList_inj {a b:ByteArray}:a.toList=b.toList↔a=b:=by
 constructor
 ·intro h;rw[toList_data,toList_data]at h;exact ByteArray.ext (Array.ext' h)
 ·rintro rfl;rfl
theorem abP {α:Type} [DecidableEq α] (L:Nat→Int→Option Bool) (x z:List α) (hl:x.length=z.length) (h1:Ev (fun k=>L k (x.length:Nat)) true)
  (h2:∀(i:Nat) (hi:i<x.length) (hz:i<z.length),(x[i]=z[i]→∀R,Ev (fun k=>L k ((i+1:Nat):Int)) R→Ev (fun k=>L k (i:Nat)) R)∧(x[i]≠z[i]→Ev (fun k=>L k (i:Nat)) false)):Ev (fun k=>L k 0) (decide (x=z)):=by
 have key:∀m i:Nat,x.length-i=m→i≤x.length→Ev (fun k=>L k (i:Nat)) (decide (x.drop i=z.drop i)):=by
  intro m
  induction m with
  |zero=>
   intro i hm hi
   obtain rfl:i=x.length:=by omega
   rw[List.drop_length,List.drop_eq_nil_of_le (by omega)];exact eZ h1 (by simp)
  |succ m ih=>
   intro i hm hi;have a:=ih (i+1) (by omega) (by omega);obtain⟨s1,s2⟩:=h2 i (by omega) (by omega);rw[List.drop_eq_getElem_cons (show i<x.length by omega),List.drop_eq_getElem_cons (show i<z.length by omega)]
   by_cases c:x[i]=z[i]
   ·exact eZ (s1 c _ a) (by simp only[List.cons.injEq,c,true_and])
   ·exact eZ (s2 c) (by simp only[List.cons.injEq,c,false_and,decide_false])
 simpa using key x.length 0 (by omega) (by omega)
theorem rdT (l:List ByteArray) (n i:Nat) (h:i<(l.take n).length):(l.take n)[i]=l[i]'(by rw[List.length_take]at h;omega):=List.getElem_take
def tH (a b:ByteArray):Bool:=(cw a).2&&((cw b).2&&decide ((cw a).1.length≤(cw b).1.length∧(cw a).1=(cw b).1.take (cw a).1.length))
end Go.Proofs.YtkfoopcpihmbmaaGreatDoor.Q
namespace Go.Proofs.YtkfoopcpihmbmaaGreatDoor.Q
open Go.RowKit Go.Proofs.YtkfoopcpihmbmaaGreatDoor.P Go.Proofs.ab.av Go.Proofs.ab.aQ Go.Proofs.ab.aT
theorem wA (a b:ByteArray) (ha:a.size≤1048576) (hb:b.size≤1048576):Ev (fun k=>db.f k a b) (tH a b):=by
 unfold db.f tH;refine Ev.bind (jd a ha) (Ev.bind (jd b hb) ?_)
 have hx:(cw a).1.length≤1048577:=by
  have h:=qk a.data.toList;rw[fb]at h;unfold cw
  split
  ·simp
  ·split
   ·simp
   ·rename_i x l hX
    split
    ·have:=congrArg List.length hX;simp at this;simp;omega
    ·simp
 generalize cw a=x at*;generalize cw b=y at*;obtain⟨x1,x2⟩:=x;obtain⟨y1,y2⟩:=y
 have hj:Ev (fun k=>db.j0 k x1 y1 true) false:=by
  apply bb
  simp only[db.j0];exact bx trivial (Ev.now _)
 cases x2 with
 |false=>exact cH (by simp) hj
 |true=>
 cases y2 with
 |false=>exact bx rfl (cH (by simp) hj)
 |true=>
 refine bx rfl (bx rfl ?_)
 by_cases c:x1.length≤y1.length
 ·apply bb
  simp only[db.j0];refine cH (by simp;omega) ?_
  have hl:x1.length=(y1.take x1.length).length:=by rw[List.length_take];omega
  have h:=abP (fun k i=>db.l0 k x1 y1 i) x1 (y1.take x1.length) hl
   (by apply bb;simp only[db.l0];exact cH (by omega) (Ev.now _))
   (by
    intro i hi hz;have r1:dr ByteArray.empty x1 (i:Int)=x1[i]:=rdS x1 i hi;have r2:dr ByteArray.empty y1 (i:Int)=y1[i]:=rdS _ i (by omega);rw[rdT y1 x1.length i hz];refine⟨fun he R hR=> ?_,fun hn=> ?_⟩
    ·apply bb
     simp only[db.l0];rw[abG i x1.length hi (by dsimp only at hx;omega),r1,r2];exact bx (by omega) (bx (by omega) (bx (by omega) (bx (toList_inj.2 he) hR)))
    ·apply bb
     simp only[db.l0];rw[r1,r2]
     exact bx (by omega) (bx (by omega) (bx (by omega) (cH (fun h=>hn (toList_inj.1 h)) (Ev.now _)))))
  exact eZ h (by simp[c])
 ·have hd:decide ((x1.length:Int)>(y1.length:Int))=true:=decide_eq_true (by omega);simp only[hd];exact eZ hj (by simp[c])
end Go.Proofs.YtkfoopcpihmbmaaGreatDoor.Q
namespace Go.Proofs.YtkfoopcpihmbmaaGreatDoor.Q
open Go.RowKit Go.Proofs.YtkfoopcpihmbmaaGreatDoor.P Go.Proofs.ab.av Go.Proofs.ab.aQ Go.Proofs.ab.aT
theorem r_ (S rest:List ByteArray) (x:ByteArray) (i:Int) (Z:List ByteArray) (hl:S.length+rest.length+1≤4611686018427387904)
  (hfin:Ev (fun r=>cb.l0 r (om S x++rest) (wrap64 (i+1))) Z):∀(k:Nat) (y:ByteArray),k≤S.length→oW S x S.length=oW S x k→Ev (fun r=>cb.l1 r (S.take k++y::(S.drop k++rest)) i x (k:Int)) Z
 |0,y,_,hp=>by
  have hset:=my S (S.drop 0++rest) 0 (Nat.zero_le _) y x
  have he:S.take 0++x::(S.drop 0++rest)=om S x++rest:=by unfold om;rw[hp];simp[oW]
  apply bb
  simp only[cb.l1];refine cH (by omega) (bx (by omega) (bx (by simp only[List.length_append,List.length_cons];omega) ?_));rw[hset,he];exact hfin
 |k+1,y,hk,hp=>by
  have hw:wrap64 (((k+1:Nat):Int)-1)=(k:Int):=by rw[lV (by omega) (by omega)];omega
  have hlen:(S.take (k+1)++y::(S.drop (k+1)++rest)).length=S.length+rest.length+1:=by
   simp only[List.length_append,List.length_cons,List.length_take,List.length_drop];omega
  have hrd:dr ByteArray.empty (S.take (k+1)++y::(S.drop (k+1)++rest)) (k:Int)=S[k]:=by
   rw[rdS _ k (by rw[hlen];omega),List.getElem_append_left (by rw[List.length_take];omega),List.getElem_take]
  have hg:S.getD k ByteArray.empty=S[k]:=by rw[List.getD_eq_getElem?_getD,List.getElem?_eq_getElem hk];rfl
  have hset:∀v,(S.take (k+1)++y::(S.drop (k+1)++rest)).set ((k+1:Nat):Int).toNat v=S.take (k+1)++v::(S.drop (k+1)++rest):=my S _ (k+1) hk y
  have hsp:S.take (k+1)++S[k]::(S.drop (k+1)++rest)=S.take k++S[k]::(S.drop k++rest):=by
   rw[List.drop_eq_getElem_cons hk,List.take_succ_eq_append_getElem hk,List.append_assoc];rfl
  rw[oW,hg,rU]at hp
  apply bb
  simp only[cb.l1,hw,hrd];refine bx (by omega) (bx (by omega) (bx (by rw[hlen];omega) ?_))
  by_cases c:Op.bytesLess x.toList S[k].toList=true
  ·rw[if_pos c]at hp;refine bx c (bx (by omega) (bx (by rw[hlen];omega) ?_));rw[hset,hsp];exact r_ S rest x i Z hl hfin k S[k] (by omega) hp
  ·rw[if_neg c]at hp;refine cH c (bx (by omega) (bx (by rw[hlen];omega) ?_))
   have he:S.take (k+1)++x::(S.drop (k+1)++rest)=om S x++rest:=by unfold om;rw[hp];simp
   rw[hset,he];exact hfin
theorem sG (l:List ByteArray) (hl:l.length≤1048576):Ev (fun k=>cb.f k l) (lW l):=by
 have hlen:∀i,i≤l.length→((l.take i).foldl om []).length=i:=fun i hi=>by
  have:=(pt (l.take i) [] List.Pairwise.nil).2.length_eq;simp only[List.append_nil,List.length_take]at this
  omega
 have fin:∀i,i=l.length→Ev (fun k=>cb.l0 k ((l.take i).foldl om []++l.drop i) (i:Int)) (lW l):=by
  intro i hi;subst hi
  apply bb
  simp only[cb.l0];refine cH (by rw[List.length_append,hlen _ (Nat.le_refl _),List.drop_length];simp) (eZ (Ev.now _) ?_);rw[List.take_length,List.drop_length,List.append_nil,uQ]
 have key:∀m i,l.length-i=m→1≤i→i≤l.length→Ev (fun k=>cb.l0 k ((l.take i).foldl om []++l.drop i) (i:Int)) (lW l):=by
  intro m
  induction m with
  |zero=>intro i h1 _ h3;exact fin i (by omega)
  |succ m ih=>
   intro i h1 h2 h3
   have hi:i<l.length:=by omega
   have hS:=hlen i h3;have h:=ih (i+1) (by omega) (by omega) (by omega);rw[List.take_succ_eq_append_getElem hi,List.foldl_append,List.foldl_cons,List.foldl_nil]at h;have hd:l.drop i=l[i]::l.drop (i+1):=List.drop_eq_getElem_cons hi;have hdl:(l.drop (i+1)).length=l.length-(i+1):=List.length_drop ..;generalize (l.take i).foldl om []=S at h hS⊢;rw[hd];generalize l.drop (i+1)=R at h hdl⊢
   have hrd:dr ByteArray.empty (S++l[i]::R) (i:Int)=l[i]:=by
    rw[rdS _ i (by simp only[List.length_append,List.length_cons];omega),List.getElem_append_right (by omega)];simp[hS]
   apply bb
   simp only[cb.l0,hrd];refine bx (by simp only[List.length_append,List.length_cons];omega) (bx (by omega) ?_);have hin:=r_ S R l[i] (i:Int) (lW l) (by omega) (by rw[qa i l.length hi (by omega)];exact h) i l[i] (by omega) (by rw[hS]);rw[List.take_of_length_le (by omega),List.drop_of_length_le (by omega),List.nil_append]at hin;exact hin
 unfold cb.f;refine bx (by show([]:List ByteArray).length+l.length<_;simp;omega) ?_
 show Ev (fun k=>cb.l0 k l 1) (lW l)
 rcases Nat.eq_zero_or_pos l.length with h0|h0
 ·obtain rfl:=List.eq_nil_of_length_eq_zero h0
  apply bb
  simp only[cb.l0];exact cH (by simp) (eZ (Ev.now _) (List.eq_nil_of_length_eq_zero (by rw[tg];rfl)).symm)
 ·have h:=key (l.length-1) 1 rfl (Nat.le_refl _) h0
  obtain⟨x,m,rfl⟩:∃x m,l=x::m:=by
   cases l with
   |nil=>simp at h0
   |cons x m=>exact⟨x,m,rfl⟩
  exact h
theorem sk {l:List aW}(t:pV l) (nx:Int) (hs:∀x∈l,iy x) (r:Int→Nat) (hr1:∀x,eJ l x≠[]→r x≤l.length) (hr2:∀p x,x∈eJ l p→eJ l x≠[]→r p<r x):
  ∀k n p (out:List ByteArray),dz l n=true→(eJ l n=[]∨l.length<k+r n)→p.size+k*1048577≤4611686018427387904→out.length+(og l k n p).length≤1000000→
   Ev (fun k'=>cq.f k' l nx n p out) (out++og l k n p):=by
 have hA:∀x∈l,fJ x:=fun x hx=>(hs x hx).a
 have hl:=t.len;intro k
 induction k with
 |zero=>
  intro n p out hn hk hp _
  have he:(eg l n).f4=[]:=by
   have hz:eJ l n=[]:=by
    rcases hk with h|h
    ·exact h
    ·apply Classical.byContradiction
     intro hne;have:=hr1 n hne
     omega
   rw[t.kids n hn]at hz;exact List.map_eq_nil_iff.1 hz
  apply bb
  simp only[cq.f];refine Ev.bind (ln l nx n (by omega) hA) ?_
  apply bb
  simp only[cq.l0,he];exact cH (by decide) (eZ (Ev.now _) (by simp[og]))
 |succ k ih=>
  intro n p out hn hk hp hout;have hX:=(fG l n hn).1;have hXT:=hs _ hX
  have hsub:∀e∈(eg l n).f4,∀o:List ByteArray,o.length+(og l k e.f1 (oe p e)).length≤1000000→Ev (fun k'=>cq.f k' l nx e.f1 (oe p e) o) (o++og l k e.f1 (oe p e)):=by
   intro e he o ho;have hen:=hXT.en e he
   have hin:e.f1∈eJ l n:=by rw[t.kids n hn];exact List.mem_map.2 ⟨e,he,rfl⟩
   refine ih e.f1 _ o (t.en _ hX e he) ?_ (by rw[sB];omega) ho
   by_cases c:eJ l e.f1=[]
   ·exact .inl c
   ·refine .inr ?_;have:=hr2 n e.f1 hin c;rcases hk with h|h
    ·rw[h]at hin;simp at hin
    ·omega
  have hnm:∀e∈(eg l n).f4,e.f0.size≤1048576:=hXT.en;have hel:=(hA _ hX).e;unfold og at hout⊢
  apply bb
  simp only[cq.f];refine Ev.bind (ln l nx n (by omega) hA) ?_;dsimp only;generalize (eg l n).f4=es at*
  have key:=down (n:=es.length) (P:=fun j=>∀acc:List ByteArray,acc.length+((es.drop j).flatMap fun e=>oe p e::og l k e.f1 (oe p e)).length≤1000000→
    Ev (fun k'=>cq.l0 k' l nx p es (j:Nat) acc) (acc++(es.drop j).flatMap fun e=>oe p e::og l k e.f1 (oe p e))) (by
   intro acc _
   apply bb
   simp only[cq.l0];rw[List.drop_length]
   exact cH (by omega) (eZ (Ev.now _) (by simp))) (fun j hj ih2=>by
   intro acc hacc;have hmem:=List.getElem_mem hj;have hE:=hsub _ hmem;have hsz:=hnm _ hmem;have hrd:aA es (j:Int)=es[j]:=getD_at es _ j hj;rw[List.drop_eq_getElem_cons hj,List.flatMap_cons]at hacc⊢;generalize es[j]=e at*
   have hps:(p++(⟨#[47]⟩:ByteArray)).size=p.size+1:=by rw[ByteArray.size_append];rfl
   simp only[List.length_append,List.length_cons]at hacc;have hE:=hE (acc++[oe p e]) (by simp only[List.length_append,List.length_cons,List.length_nil];omega);have h2:=ih2 (acc++[oe p e]++og l k e.f1 (oe p e)) (by simp only[List.length_append,List.length_cons,List.length_nil];omega)
   apply bb
   simp only[cq.l0,hrd,hps];refine bx (by omega) (bx (by omega) (bx (by omega) (bx (by omega) (bx (by omega) ?_))));refine Ev.bind hE ?_;rw[qa j es.length hj (by omega)];refine eZ h2 ?_
   simp only[List.append_assoc,List.cons_append,List.nil_append])
  simpa using key out (by simpa using hout)
theorem wB (l:List aW) (nx:Int) (hl:l.length≤1048576) (hs:∀x∈l,iy x):Ev (fun k=>iJ.f k l nx) (lW (rP l nx)):=by
 unfold iJ.f rP;refine Ev.bind (gn l nx hl hs) ?_
 by_cases c:fx l nx=true
 ·refine bx c ?_;rw[if_pos c];have t:=ib l nx c;obtain⟨r,hr1,hr2⟩:=t.aa9.rank
  have hlen:(og l (l.length+1) 1 ⟨#[]⟩).length≤300:=by rw[qH t _ _ _ t.rt];exact t.cnt _ _
  have hb:=sk t nx hs r hr1 hr2 (l.length+1) 1 ⟨#[]⟩ [] t.rt (.inr (by omega)) (by have:=t.len;show 0+_≤_;omega) (by simp;omega);rw[List.nil_append]at hb;exact Ev.bind hb (sG _ (by omega))
 ·refine cH c ?_;rw[if_neg c];exact sG _ (by simp)
end Go.Proofs.YtkfoopcpihmbmaaGreatDoor.Q
namespace Go.Proofs.YtkfoopcpihmbmaaGreatDoor.Q
open Go.RowKit Go.Proofs.ab.av Go.Proofs.ab.aQ Go.Proofs.ab.aT
theorem ye (n:Int) (h₀:0≤n) (h₁:n<2^63):IntKind.i64.wrap n=n:=by rw[IntKind.wrap_i64];omega
end Go.Proofs.YtkfoopcpihmbmaaGreatDoor.Q
namespace Go.Proofs.YtkfoopcpihmbmaaGreatDoor.Q
open Go.RowKit Go.Proofs.YtkfoopcpihmbmaaGreatDoor.P Go.Proofs.ab.av Go.Proofs.ab.aQ Go.Proofs.ab.aT
theorem tI (x:Int):0≤Go.bits .and .i64 x 255∧Go.bits .and .i64 x 255≤255:=by
 simp only[Go.bits,BitVec.toNat_and];have h:(BitVec.ofInt 64 x).toNat&&&(BitVec.ofInt 64 255).toNat≤255:=Nat.and_le_right;have:(BitVec.ofInt IntKind.i64.bits x).toNat&&&(BitVec.ofInt IntKind.i64.bits 255).toNat≤255:=h;generalize (BitVec.ofInt IntKind.i64.bits x).toNat&&&(BitVec.ofInt IntKind.i64.bits 255).toNat=m at*;rw[ye _ (by omega) (by omega)]
 omega
def lM (b:List Int) (i:Int):Prop:=Byt b∧b.length≤4611686018427387904∧0≤i∧i≤b.length
theorem wC (l:List Int) (hl:l.length≤4611686018427387904) (n:Nat):∀(i:Nat) (h:Int),i≤l.length→l.length-i=n→∃h',Ev (fun k=>eP.l0 k l h i) (l,0,h'):=by
 induction n with
 |zero=>
  intro i h hi hn;refine⟨h,?_⟩
  apply bb
  simp only[eP.l0];exact cH (by omega) (Ev.now _)
 |succ n ih=>
  intro i h hi hn
  by_cases hm:(i:Int)<4000
  ·obtain⟨h',ih⟩:=ih (i+1) (Go.bits .and .i64 (wrap64 ((wrap64 ((wrap64 (h*137))+(wrap64 (rd l i))))+11)) 1073741823) (by omega) (by omega);rw[show((i+1:Nat):Int)=wrap64 ((i:Int)+1)from by rw[lV (by omega) (by omega)];simp]at ih;refine⟨h',?_⟩
   apply bb
   simp only[eP.l0];exact bx (by omega) (bx hm (bx (by omega) ih))
  ·refine⟨h,?_⟩
   apply bb
   simp only[eP.l0];exact bx (by omega) (cH hm (Ev.now _))
theorem aaT (l:List Int) (hb:Byt l) (hl:l.length≤4611686018427387904):∃h,Ev (fun k=>eP.f k l) (l,0,h)∧lM l 0:=by
 obtain⟨h,e⟩:=wC l hl l.length 0 (wrap64 (351351+(l.length:Int))) (by omega) (by omega);exact⟨h,by simpa [eP.f]using e,hb,hl,by omega,by omega⟩
theorem na {b:List Int}{i:Int}(hc:lM b i) (h:Int):∃x i' h',eQ.f b i h=some (x,i',h')∧0≤x∧x≤255∧lM b i':=by
 obtain⟨hb,hl,h0,h1⟩:=hc;unfold eQ.f
 by_cases h2:i<b.length
 ·rw[if_pos h2,if_pos h0,lV (n:=i+1) (by omega) (by omega)];exact⟨_,_,_,rfl,(tI _).1,(tI _).2,hb,hl,by omega,by omega⟩
 ·rw[if_neg h2];exact⟨_,_,_,rfl,(tI _).1,(tI _).2,hb,hl,by omega,by omega⟩
theorem eR {b:List Int}{i:Int}(hc:lM b i) (h n:Int):∃x i' h',br.f b i h n=some (x,i',h')∧0≤x∧(0<n→x<n)∧(n≤0→x=0)∧lM b i':=by
 unfold br.f
 by_cases h0:n≤0
 ·rw[if_pos h0];exact⟨0,i,h,rfl,by omega,by omega,fun _=>rfl,hc⟩
 rw[if_neg h0]
 by_cases h1:n≤256
 ·rw[if_pos h1];obtain⟨x,i1,h1,e,hx0,hx1,hc1⟩:=na hc h;rw[e,Option.bind_some,if_neg (by omega),Int.tmod_eq_emod_of_nonneg (by omega)];exact⟨_,_,_,rfl,Int.emod_nonneg _ (by omega),fun _=>Int.emod_lt_of_pos _ (by omega),fun _=>by omega,hc1⟩
 ·rw[if_neg h1];obtain⟨x,i1,h1,e,hx0,hx1,hc1⟩:=na hc h;obtain⟨y,i2,h2,e2,hy0,hy1,hc2⟩:=na hc1 h1;obtain⟨z,i3,h3,e3,hz0,hz1,hc3⟩:=na hc2 h2;rw[e,Option.bind_some,e2,Option.bind_some,e3,Option.bind_some,if_neg (by omega)];rw[lV (n:=x*65536) (by omega) (by omega),lV (n:=y*256) (by omega) (by omega),lV (n:=x*65536+y*256) (by omega) (by omega),lV (by omega) (by omega),Int.tmod_eq_emod_of_nonneg (by omega)];exact⟨_,_,_,rfl,Int.emod_nonneg _ (by omega),fun _=>Int.emod_lt_of_pos _ (by omega),fun _=>by omega,hc3⟩
theorem acV {l:List Int}{i:Int}(h0:0≤i) (h1:i<l.length):rd l i∈l:=by
 unfold Go.Proofs.ab.av.rd;rw[List.getD_eq_getElem?_getD,List.getElem?_eq_getElem (show i.toNat<l.length by omega)];exact List.getElem_mem _
theorem kS {b:List Int}{i:Int}(hc:lM b i) (h:Int) (l:List Int) (hl:0<l.length):∃x i' h',cN.f b i h l=some (x,i',h')∧x∈l∧lM b i':=by
 unfold cN.f;obtain⟨x,i1,h1,e,hx0,hx1,_,hc1⟩:=eR hc h (l.length:Int);have:=hx1 (by omega);rw[e,Option.bind_some,if_pos hx0,if_pos this];exact⟨_,_,_,rfl,acV hx0 this,hc1⟩
theorem tJ {b:List Int}(m:Int) (hm:m≤1000000) (n:Nat):∀(j:Nat) (xs:List Int) (i h:Int),lM b i→Byt xs→xs.length=j→(m-j).toNat=n→(j:Int)≤m∨m<0∧j=0→
  ∃ys i' h',Ev (fun k=>cV.l0 k m xs j b i h) (ys,i',h')∧Byt ys∧(ys.length:Int)=max 0 m∧lM b i':=by
 induction n with
 |zero=>
  intro j xs i h hc hx hj hn hjm;refine⟨xs,i,h,?_,hx,by omega,hc⟩
  apply bb
  simp only[cV.l0];exact cH (by omega) (Ev.now _)
 |succ n ih=>
  intro j xs i h hc hx hj hn hjm;obtain⟨x,i1,h1,e,hx0,hx1,hc1⟩:=na hc h
  obtain⟨ys,i2,h2,e2,hy,hyl,hc2⟩:=ih (j+1) (xs++[x%256]) i1 h1 hc1 (by
   intro z hz;rcases List.mem_append.1 hz with hz|hz
   ·exact hx z hz
   ·rw[List.mem_singleton.1 hz];omega) (by simp[hj]) (by omega) (by omega)
  rw[show((j+1:Nat):Int)=wrap64 ((j:Int)+1)from by rw[lV (by omega) (by omega)];simp]at e2;refine⟨ys,i2,h2,?_,hy,hyl,hc2⟩
  apply bb
  simp only[cV.l0,e,Option.bind_some];exact bx (by omega) (bx (by omega) e2)
theorem sa {b:List Int}{i:Int}(hc:lM b i) (h m:Int) (hm:m≤1000000):∃ys i' h',Ev (fun k=>cV.f k b i h m) (ys,i',h')∧Byt ys∧(ys.length:Int)=max 0 m∧lM b i':=by
 obtain⟨ys,i',h',e,h1,h2,h3⟩:=tJ m hm m.toNat 0 [] i h hc (fun x hx=>by cases hx) rfl (by omega) (by omega);exact⟨ys,i',h',by simpa [cV.f]using e,h1,h2,h3⟩
theorem yf {b:List Int}{i:Int}(hc:lM b i) (h:Int):∃ys i' h',Ev (fun k=>iB.f k b i h) (ys,i',h')∧Byt ys∧ys.length≤9∧lM b i':=by
 obtain⟨x,i1,h1,e,hx,hc1⟩:=kS hc h [0,1,2,5,9] (by simp)
 have hx9:0≤x∧x≤9:=by simp at hx;omega
 obtain⟨ys,i2,h2,e2,hy,hl,hc2⟩:=sa hc1 h1 x (by omega);refine⟨ys,i2,h2,?_,hy,by omega,hc2⟩;unfold iB.f;simp only[e,Option.bind_some];exact Ev.bind e2 (Ev.now _)
end Go.Proofs.YtkfoopcpihmbmaaGreatDoor.Q
namespace Go.Proofs.YtkfoopcpihmbmaaGreatDoor.Q
open Go.RowKit Go.Proofs.YtkfoopcpihmbmaaGreatDoor.P Go.Proofs.ab.av Go.Proofs.ab.aQ Go.Proofs.ab.aT
theorem nb {b:List Int}{i:Int}(hc:lM b i) (h n:Int):∃t i' h',eF.f b i h n=some (t,i',h')∧lM b i':=by
 unfold eF.f;obtain⟨x,i1,h1,e,_,_,_,hc1⟩:=eR hc h n;rw[e,Option.bind_some];exact⟨_,_,_,rfl,hc1⟩
theorem nc {b:List Int}{i:Int}(hc:lM b i) (h:Int) (l:List ByteArray) (hl:0<l.length):∃s i' h',dj.f b i h l=some (s,i',h')∧s∈l∧lM b i':=by
 unfold dj.f;obtain⟨x,i1,h1,e,hx0,hx1,_,hc1⟩:=eR hc h (l.length:Int);have:=hx1 (by omega);rw[e,Option.bind_some,if_pos hx0,if_pos this];refine⟨_,_,_,rfl,?_,hc1⟩;obtain⟨n,rfl⟩:=Int.eq_ofNat_of_zero_le hx0;rw[rdS l n (by omega)];exact List.getElem_mem _
theorem kT (l:List ByteArray) (m:Nat) (h:(l.all fun x=>decide (x.size≤m))=true):∀x∈l,x.size≤m:=fun x hx=>by simpa using List.all_eq_true.1 h x hx
theorem sH {b:List Int}{i:Int}(hc:lM b i) (h:Int):∃s i' h',gl.f b i h=some (s,i',h')∧s.size≤5∧lM b i':=by
 unfold gl.f;obtain⟨s,i1,h1,e,hs,hc1⟩:=nc hc h [(⟨#[97]⟩:ByteArray),(⟨#[98]⟩:ByteArray),(⟨#[99]⟩:ByteArray),(⟨#[100,46,116,120,116]⟩:ByteArray)] (by simp);rw[e,Option.bind_some];exact⟨_,_,_,rfl,kT _ 5 (by decide) s hs,hc1⟩
theorem vl {b:List Int}(n:Nat):∀(m:Int) (acc:ByteArray) (i h:Int),lM b i→m.toNat=n→m≤1000000→acc.size+6*n≤9000000→
  ∃s i' h',Ev (fun k=>eo.l0 k acc m b i h) (s,i',h')∧s.size≤acc.size+6*n∧lM b i':=by
 induction n with
 |zero=>
  intro m acc i h hc hm _ hs;refine⟨acc,i,h,?_,by omega,hc⟩
  apply bb
  simp only[eo.l0];exact cH (by omega) (Ev.now _)
 |succ n ih=>
  intro m acc i h hc hm h9 hs;obtain⟨x,i1,h1,e,hx,hc1⟩:=sH hc h
  have hsz:(acc++(⟨#[47]⟩:ByteArray)).size=acc.size+1:=by rw[ByteArray.size_append];rfl
  obtain⟨s,i2,h2,e2,hs2,hc2⟩:=ih (m-1) ((acc++(⟨#[47]⟩:ByteArray))++x) i1 h1 hc1 (by omega) (by omega) (by rw[ByteArray.size_append,hsz];omega);rw[ByteArray.size_append,hsz]at hs2;refine⟨s,i2,h2,?_,by omega,hc2⟩
  apply bb
  simp only[eo.l0,e,Option.bind_some];rw[lV (by omega) (by omega)];exact bx (by omega) (bx (by omega) (bx (by rw[hsz];omega) e2))
theorem sI {b:List Int}{i:Int}(hc:lM b i) (h:Int):∃s i' h',Ev (fun k=>eo.f k b i h) (s,i',h')∧s.size≤100∧lM b i':=by
 unfold eo.f;obtain⟨x,i1,h1,e,hx0,hx1,_,hc1⟩:=eR hc h 3;have:=hx1 (by omega);obtain⟨s,i2,h2,e2,hs,hc2⟩:=vl (1+x).toNat (1+x) ⟨#[]⟩ i1 h1 hc1 rfl (by omega) (by have:(⟨#[]⟩:ByteArray).size=0:=rfl;omega);have h0:(⟨#[]⟩:ByteArray).size=0:=rfl;refine⟨s,i2,h2,?_,by omega,hc2⟩;simp only[e,Option.bind_some];rw[lV (by omega) (by omega)];exact e2
theorem uA {b:List Int}{i:Int}(hc:lM b i) (h:Int):∃s i' h',Ev (fun k=>iD.f k b i h) (s,i',h')∧s.size≤100∧lM b i':=by
 unfold iD.f;obtain⟨t,i1,h1,e,hc1⟩:=nb hc h 6;simp only[e,Option.bind_some]
 cases t with
 |true=>
  obtain⟨s,i2,h2,e2,hs,hc2⟩:=nc hc1 h1 [(⟨#[]⟩:ByteArray),(⟨#[47]⟩:ByteArray),(⟨#[97]⟩:ByteArray),(⟨#[47,47]⟩:ByteArray),(⟨#[47,97,47]⟩:ByteArray),(⟨#[47,65]⟩:ByteArray),(⟨#[47,46,46]⟩:ByteArray),(⟨#[47,46]⟩:ByteArray),(⟨#[47,102,105,102,116,101,101,110,98,121,116,101,115,120,120,120]⟩:ByteArray),(⟨#[47,97,47,47,98]⟩:ByteArray)] (by simp);refine⟨s,i2,h2,?_,kT _ 100 (by decide) s hs,hc2⟩;simp only[e2,Option.bind_some];exact bx trivial (Ev.now _)
 |false=>
  obtain⟨s,i2,h2,e2,hs,hc2⟩:=sI hc1 h1;exact⟨s,i2,h2,cH (by simp) (Ev.bind e2 (Ev.now _)),hs,hc2⟩
end Go.Proofs.YtkfoopcpihmbmaaGreatDoor.Q
namespace Go.Proofs.YtkfoopcpihmbmaaGreatDoor.Q
open Go.RowKit Go.Proofs.YtkfoopcpihmbmaaGreatDoor.P Go.Proofs.ab.av Go.Proofs.ab.aQ Go.Proofs.ab.aT
theorem qJ (T:List aW) (p:ByteArray) (h:(eu T p).2=0):(cp T p).2=0∧(eu T p).1=(cp T p).1:=by
 unfold eu at h⊢
 split at h
 ·cases h
 ·rename_i c
  rw[if_neg c];exact⟨h,rfl⟩
def wD (T:List aW) (nx:Int) (p:ByteArray):List aW×Int×Int:=if im T nx [p]=true∧p.toList≠([47]:List UInt8)then acU T nx p else(T,nx,1)
theorem yg (T:List aW) (nx:Int) (p:ByteArray) (hT:T.length≤1048576) (hs:∀x∈T,iy x) (hp:p.size≤1048576):Ev (fun k=>eG.f k T nx p) (wD T nx p):=by
 have hA:∀x∈T,fJ x:=fun x hx=>(hs x hx).a
 unfold eG.f;refine Ev.bind (ia p hp) (Ev.bind (gn T nx (by omega) hs) ?_)
 have bad:¬(im T nx [p]=true∧p.toList≠([47]:List UInt8))→Ev (fun k=>eG.j0 k p true T nx) (wD T nx p):=by
  intro c
  apply bb
  simp only[eG.j0];refine bx trivial (Ev.bind (ct T nx (by omega) hA) (eZ (Ev.now _) ?_));unfold wD;rw[if_neg c]
 by_cases c1:fx T nx=true
 ·refine bx c1 ?_
  by_cases c2:(bk p).2.2=true
  ·have⟨s1,s2⟩:=(hH p).1 c2;have h30:=oO T nx [p] ((ready_one T nx p).2 ⟨c1,s1⟩);rw[c2];unfold wD;rw[if_pos ⟨(ready_one T nx p).2 ⟨c1,s1⟩,s2⟩]
   apply bb
   simp only[eG.j0,Bool.not_true];refine cH (by decide) (Ev.bind (oN T nx p (by omega) hA hp) ?_);unfold acU;have hcode:=ma T p;simp only[sg]
   by_cases d1:(eu T p).2=0
   ·refine bx (hcode.trans d1) ?_;rw[if_pos d1,mb T p d1];have hso:=(oM T p s1 s2 (qJ T p d1).1).1;have hsm:=kR T p hA;have hfm:=l_ T p hA;have hlk:=rW T nx p c1;refine Ev.bind (qI T nx p (by omega) hA hp hso) ?_;have hlen:=fV (gp (cg T p).1 (delN (cg T p).2.1 (cg T p).1.f4)) T;have hin:=nE (cg T p).1 T (delN (cg T p).2.1 (cg T p).1.f4) hsm (Nat.le_trans (List.length_filter_le ..) hsm.e) hA
    by_cases d2:(eu T p).1.f2=1
    ·refine bx d2 ?_;rw[if_pos (show(eu T p).1.f2-1=0 by omega)];exact Ev.bind (sA (gy (gp (cg T p).1 (delN (cg T p).2.1 (cg T p).1.f4)) T) nx _ (by omega) hin) (Ev.now _)
    ·refine cH d2 ?_;rw[if_neg (show¬(eu T p).1.f2-1=0 by omega)];have hw:wrap64 ((eu T p).1.f2-1)=(eu T p).1.f2-1:=lV (by omega) (by omega);simp only[hw];exact Ev.bind (je (gy (gp (cg T p).1 (delN (cg T p).2.1 (cg T p).1.f4)) T) nx (pS (eu T p).1 ((eu T p).1.f2-1)) (by omega) hin ⟨hfm.d,hfm.e,hfm.t⟩) (Ev.now _)
   ·refine cH (fun h=>d1 (hcode.symm.trans h)) (Ev.bind (ct T nx (by omega) hA) (eZ (Ev.now _) ?_));rw[if_neg d1,hcode]
  ·have c2':(bk p).2.2=false:=by simpa using c2
   rw[c2'];exact bad (fun h=>c2 ((hH p).2 ⟨((ready_one T nx p).1 h.1).2,h.2⟩))
 ·exact cH c1 (bad (fun h=>c1 ((ready_one T nx p).1 h.1).1))
theorem yh (l:List cD) (nm:ByteArray) (ino:Int) (hl:l.length≤1048576):Ev (fun k=>cf.f k l nm ino) (lp keyE z74 l ⟨nm,ino⟩):=by
 have h:=qp l nm ino hl l.length ⟨nm,ino⟩ (Nat.le_refl _) rfl;rw[List.take_length,List.drop_length]at h;unfold cf.f;simp only[Option.bind_some,List.nil_append];refine bx (by simp;omega) (bx (by simp;omega) ?_);rw[show(wrap64 (((l++[(⟨nm,ino⟩:cD)]).length:Int)-1))=(l.length:Int) by rw[List.length_append,List.length_singleton,lV (by omega) (by omega)];omega];exact h
def pZ (T:List aW) (p:ByteArray):List aW:=gy (gp (cp T (bk p).1).1 (delN (bk p).2.1 (cp T (bk p).1).1.f4)) T
theorem tK (T:List aW) (nx:Int) (p:ByteArray) (hT:T.length≤1048576) (hA:∀x∈T,fJ x) (hp:p.size≤1048576):Ev (fun k=>fu.f k T nx p) (pZ T p,nx):=by
 have hsm:=gm T (bk p).1 hA;unfold fu.f pZ;refine Ev.bind (ia p hp) (Ev.bind (jk T nx _ hT hA (km p)) ?_);simp only[sg];have he:=hsm.e;refine Ev.bind (uV _ _ he) (Ev.bind (je T nx (gp (cp T (bk p).1).1 (delN (bk p).2.1 (cp T (bk p).1).1.f4)) hT hA ⟨hsm.d,Nat.le_trans (List.length_filter_le ..) he,hsm.t⟩) (Ev.now _))
def adu (T:List aW) (p q:ByteArray) (ino:Int) (nm:ByteArray):List aW:=
 gy (gp (cp (pZ T p) (bk q).1).1 (lp keyE z74 (cp (pZ T p) (bk q).1).1.f4 ⟨nm,ino⟩)) (pZ T p)
def wE (T:List aW) (nx:Int) (p q:ByteArray):List aW×Int×Int:=
 if fx T nx=true∧(bk p).2.2=true∧(bk q).2.2=true then
  (if(fv T p).2=0 then
   (if tH p q=true then(T,nx,6)
    else(if(jf T q (fv T (bk p).1).1).2.2=0 then(adu T p q (fv T p).1 (jf T q (fv T (bk p).1).1).2.1,nx,0)
     else(T,nx,(jf T q (fv T (bk p).1).1).2.2)))
   else(T,nx,(fv T p).2))
 else(T,nx,1)
theorem yi (T:List aW) (nx:Int) (p q:ByteArray) (hT:T.length≤1048576) (hs:∀x∈T,iy x) (hp:p.size≤1048576) (hq:q.size≤1048576):Ev (fun k=>ez.f k T nx p q) (wE T nx p q):=by
 have hA:∀x∈T,fJ x:=fun x hx=>(hs x hx).a
 unfold ez.f;refine Ev.bind (ia p hp) (Ev.bind (ia q hq) (Ev.bind (gn T nx (by omega) hs) ?_))
 have bad:¬(fx T nx=true∧(bk p).2.2=true∧(bk q).2.2=true)→Ev (fun k=>ez.j0 k p q (bk p).1 true T nx) (wE T nx p q):=by
  intro c
  apply bb
  simp only[ez.j0];refine bx trivial (Ev.bind (ct T nx (by omega) hA) (eZ (Ev.now _) ?_));unfold wE;rw[if_neg c]
 by_cases c1:fx T nx=true
 ·refine bx c1 ?_
  by_cases c2:(bk p).2.2=true
  ·refine bx c2 ?_
   by_cases c3:(bk q).2.2=true
   ·have⟨s1,s2⟩:=(hH p).1 c2;have h30:=oO T nx [p] ((ready_one T nx p).2 ⟨c1,s1⟩);rw[c3];unfold wE;rw[if_pos ⟨c1,c2,c3⟩]
    apply bb
    simp only[ez.j0,Bool.not_true];refine cH (by decide) (Ev.bind (ql T nx p (by omega) hA hp) ?_)
    by_cases d1:(fv T p).2=0
    ·refine bx d1 (Ev.bind (wA p q hp hq) ?_);rw[if_pos d1]
     by_cases d2:tH p q=true
     ·refine bx d2 (Ev.bind (ct T nx (by omega) hA) (eZ (Ev.now _) ?_));rw[if_pos d2]
     ·refine cH d2 (Ev.bind (ql T nx _ (by omega) hA (km p)) (Ev.bind (qq T nx q _ (by omega) hA hq) ?_));rw[if_neg d2];simp only[xb];generalize jf T q (fv T (bk p).1).1=s at*
      by_cases d3:s.2.2=0
      ·refine bx d3 ?_;rw[if_pos d3];have hsm:=gm T (bk p).1 hA;refine Ev.bind (tK T nx p (by omega) hA hp) (Ev.bind (ia q hq) ?_);have hlen:(pZ T p).length≤T.length+1:=fV _ T;have hin:∀y∈pZ T p,fJ y:=nE _ T (delN (bk p).2.1 (cp T (bk p).1).1.f4) hsm (Nat.le_trans (List.length_filter_le ..) hsm.e) hA;have t:=ib T nx c1
       have h10:∀y∈pZ T p,y.f4.length≤10:=by
        intro y hy;rcases lJ _ _ _ hy with rfl|hy
        ·refine Nat.le_trans (List.length_filter_le ..) ?_;rcases kH T (bk p).1 with e|e
         ·rw[e];decide
         ·exact(iz _ (t.ok _ e)).1
        ·exact(iz _ (t.ok _ hy)).1
       unfold adu;generalize pZ T p=U at*;refine Ev.bind (jk U nx _ (by omega) hin (km q)) ?_
       have hy4:(cp U (bk q).1).1.f4.length≤10:=by
        rcases kH U (bk q).1 with e|e
        ·rw[e];decide
        ·exact h10 _ e
       have hym:=gm U (bk q).1 hin;simp only[sg];generalize cp U (bk q).1=y at*;refine Ev.bind (yh y.1.f4 s.2.1 (fv T p).1 (by omega)) (Ev.bind (je U nx (gp y.1 (lp keyE z74 y.1.f4 ⟨s.2.1,(fv T p).1⟩)) (by omega) hin ⟨hym.d,?_,hym.t⟩) (Ev.now _))
       show(lp _ _ _ _).length≤1048576
       unfold lp;simp only[List.length_append,List.length_take,List.length_drop,List.length_singleton]
       omega
      ·refine cH d3 (Ev.bind (ct T nx (by omega) hA) (eZ (Ev.now _) ?_));rw[if_neg d3]
    ·refine cH d1 (Ev.bind (ct T nx (by omega) hA) (eZ (Ev.now _) ?_));rw[if_neg d1]
   ·have c3':(bk q).2.2=false:=by simpa using c3
    rw[c3'];exact bad (fun h=>c3 h.2.2)
  ·exact cH c2 (bad (fun h=>c2 h.2.1))
 ·exact cH c1 (bad (fun h=>c1 h.1))
end Go.Proofs.YtkfoopcpihmbmaaGreatDoor.Q
namespace Go.Proofs.YtkfoopcpihmbmaaGreatDoor.Q
open Go.RowKit Go.Proofs.YtkfoopcpihmbmaaGreatDoor.P Go.Proofs.ab.av Go.Proofs.ab.aQ Go.Proofs.ab.aT
structure Gt (T:List aW):Prop where
 n1:1≤T.length
 n:T.length≤40
 s:∀x∈T,iy x
theorem abf (x:aW) (l:List aW):1≤(gy x l).length:=by
 unfold gy
 split
 ·rename_i h
  rw[List.length_set];rcases l with _|⟨y,l⟩
  ·exact absurd h (by rw[dd];decide)
  ·simp
 ·simp only[List.length_append,List.length_take,List.length_drop,List.length_singleton];omega
theorem Gt.set {T:List aW}(g:∀x∈T,iy x) (hl:T.length≤39) (x:aW) (hx:iy x):Gt (gy x T):=
 ⟨abf x T,by have:=fV x T;omega,fun y hy=>by
  rcases lJ _ _ _ hy with rfl|hy
  ·exact hx
  ·exact g y hy⟩
theorem acW:iy kG:=⟨by decide,by decide,by decide,(fun y hy=>by cases hy),(fun y hy=>by cases hy)⟩
theorem wF (T:List aW) (p:ByteArray) (h:∀x∈T,iy x):iy (cp T p).1:=by
 rcases kH T p with e|e
 ·rw[e];exact acW
 ·exact h _ e
theorem tL {x:aW}(h:iy x) (e:List cD) (hl:e.length≤1048576) (he:∀y∈e,y.f0.size≤1048576):iy (gp x e):=⟨h.d,hl,h.t,he,h.tn⟩
theorem xj {x:aW}(h:iy x) (d:List Int) (hl:d.length≤1048576):iy (aa6 x d):=⟨hl,h.e,h.t,h.en,h.tn⟩
theorem xk {x:aW}(h:iy x) (n:Int):iy (pS x n):=⟨h.d,h.e,h.t,h.en,h.tn⟩
theorem xl {x:aW}(h:iy x) (t:List bj) (hl:t.length≤1048576) (ht:∀y∈t,y.f0.size≤1048576):iy (u_ x t):=⟨h.d,h.e,hl,h.en,ht⟩
theorem tM {x:aW}(h:iy x) (nm:ByteArray):iy (gp x (delN nm x.f4)):=
 tL h _ (Nat.le_trans (List.length_filter_le ..) h.e) fun y hy=>h.en y (List.mem_filter.1 hy).1
theorem abg {x:aW}(h:iy x) (nm:ByteArray) (ino:Int) (hn:nm.size≤1048576) (hl:x.f4.length<1048576):iy (gp x (mn nm ino x.f4)):=
 tL h _ (by rw[od];omega) fun y hy=>by
  rcases(aa_ nm ino x.f4 y).1 hy with hy|rfl
  ·exact h.en y hy
  ·exact hn
theorem vm {α:Type}(key:α→ByteArray) (d:α) (l:List α) (x y:α) (h:y∈lp key d l x):y∈l∨y=x:=by
 unfold lp at h;rcases List.mem_append.1 h with h|h
 ·rcases List.mem_append.1 h with h|h
  ·exact .inl (List.mem_of_mem_take h)
  ·exact .inr (List.mem_singleton.1 h)
 ·exact .inl (List.mem_of_mem_drop h)
theorem qK {α:Type}(key:α→ByteArray) (d:α) (l:List α) (x:α):(lp key d l x).length=l.length+1:=by
 unfold lp;simp only[List.length_append,List.length_take,List.length_drop,List.length_singleton]
 omega
theorem pv (p:ByteArray) (h:(bk p).2.2=true):(bk p).2.1.size≤1048576:=by
 have⟨s1,s2⟩:=(hH p).1 h;have:=(oJ _ (tD p s1 s2)).2.2
 omega
theorem sJ (nm:ByteArray) (l:List cD) (h2:∀e∈l,2≤e.f1) (h:iC nm l≠0):2≤iC nm l:=by
 induction l with
 |nil=>exact absurd rfl h
 |cons x l ih=>
  rw[iC]at h⊢
  split
  ·exact h2 x (List.mem_cons_self ..)
  ·rename_i c
   rw[if_neg c]at h;exact ih (fun e he=>h2 e (List.mem_cons_of_mem _ he)) h
theorem sK {T:List aW}{nx:Int}(t:rQ T nx) (y:aW) (hy:dz T y.f0=true) (hyt:iy y) (hs:∀x∈T,iy x) (n:Int) (hn:n≠1):Gt (mv n (gy y T)):=by
 obtain⟨r,hr,h1,_⟩:=t.hd;have hl:=fV y T;have h30:=t.n30;refine⟨?_,Nat.le_trans (List.length_filter_le ..) (by omega),fun x hx=> ?_⟩
 ·have hm:jo y r∈mv n (gy y T):=by
   unfold mv;rw[List.mem_filter];refine⟨?_,?_⟩
   ·rw[oh T t.st y hy];exact List.mem_map.2 ⟨r,hr,rfl⟩
   ·rw[uS,h1,decide_eq_false (fun h=>hn h.symm)];rfl
  exact List.length_pos_of_mem hm
 ·rcases lJ _ _ _ (List.mem_filter.1 hx).1 with rfl|h
  ·exact hyt
  ·exact hs x h
theorem kI {T:List aW}{nx:Int}{p:ByteArray}(h:im T nx [p]=true):rQ T nx:=(nD T nx).1 ((ready_one T nx p).1 h).1
theorem nf {T:List aW}{nx:Int}(t:rQ T nx) {x:aW}(h:x∈T):x.f4.length≤10∧∀e∈x.f4,2≤e.f1:=by
 have:=iz _ (t.ok _ h);exact⟨this.1,fun e he=>(this.2.1 e he).1⟩
theorem abh {T:List aW}(g:Gt T) (nx:Int) (p:ByteArray) (kind:Int):Gt (mw T nx p kind).1:=by
 unfold mw
 split
 ·rename_i c
  have t:=kI c.1;have h30:=t.n30;have hok:=(hH p).2 ⟨((ready_one T nx p).1 c.1).2,c.2⟩
  split
  ·rename_i c1
   obtain⟨h1,_,h3⟩:=lL T p c1
   split
   ·split
    ·exact g
    ·have hx:=abg (g.s _ h1) (cg T p).2.1 nx (by rw[h3];exact pv p hok) (by have:=(nf t h1).1;omega);have g1:=Gt.set g.s (by omega) _ hx;exact Gt.set g1.s (by have:=fV (gp (cg T p).1 (mn (cg T p).2.1 nx (cg T p).1.f4)) T;omega) _ ⟨by simp,by simp,by simp,fun y hy=>by simp at hy,fun y hy=>by simp at hy⟩
   ·exact g
  ·exact g
 ·exact g
theorem adv {T:List aW}(g:Gt T) (nx:Int) (p:ByteArray):Gt (wv T nx p).1:=by
 unfold wv
 split
 ·rename_i c
  have t:=kI c.1;unfold acT
  split
  ·rename_i c1
   obtain⟨h1,h2,h3⟩:=oM T p ((ready_one T nx p).1 c.1).2 c.2 c1;have hm:=(lL T p h1).1
   split
   ·split
    ·exact g
    ·refine sK t (gp (cg T p).1 (delN (cg T p).2.1 (cg T p).1.f4)) (show dz T (cg T p).1.f0=true from lK T _ hm) (tM (g.s _ hm) _) g.s _ ?_;have:=sJ _ _ (nf t hm).2 h3
     omega
   ·exact g
  ·exact g
 ·exact g
theorem adw {T:List aW}(g:Gt T) (nx:Int) (p:ByteArray):Gt (wD T nx p).1:=by
 unfold wD
 split
 ·rename_i c
  have t:=kI c.1;have h30:=t.n30;unfold acU
  split
  ·rename_i c1
   obtain⟨s1,s2⟩:=qJ T p c1;obtain⟨h1,h2,h3⟩:=oM T p ((ready_one T nx p).1 c.1).2 c.2 s1;have hm:=(lL T p h1).1
   split
   ·refine sK t (gp (cg T p).1 (delN (cg T p).2.1 (cg T p).1.f4)) (show dz T (cg T p).1.f0=true from lK T _ hm) (tM (g.s _ hm) _) g.s _ ?_;have:=sJ _ _ (nf t hm).2 h3;rw[s2]
    omega
   ·have g1:=Gt.set g.s (by omega) _ (tM (g.s _ hm) (cg T p).2.1);exact Gt.set g1.s (by have:=fV (gp (cg T p).1 (delN (cg T p).2.1 (cg T p).1.f4)) T;omega) _ (xk (g.s _ (oo T p c1).1) _)
  ·exact g
 ·exact g
theorem acX {T:List aW}(g:Gt T) (nx:Int) (p q:ByteArray):Gt (rV T nx p q).1:=by
 unfold rV
 split
 ·rename_i c
  have c1:=(mz T nx p q).1 c.1;have t:=(nD T nx).1 c1.1;have h30:=t.n30;have hok:=(hH q).2 ⟨c1.2.2,c.2⟩;unfold abe
  split
  ·rename_i d1
   split
   ·rename_i d2
    obtain⟨h1,_,h3⟩:=lL T q d2
    split
    ·split
     ·exact g
     ·have hx:=abg (g.s _ h1) (cg T q).2.1 (eu T p).1.f0 (by rw[h3];exact pv q hok) (by have:=(nf t h1).1;omega);have g1:=Gt.set g.s (by omega) _ hx;exact Gt.set g1.s (by have:=fV (gp (cg T q).1 (mn (cg T q).2.1 (eu T p).1.f0 (cg T q).1.f4)) T;omega) _ (xk (g.s _ (oo T p d1).1) _)
    ·exact g
   ·exact g
  ·exact g
 ·exact g
theorem wG (T:List aW) (q:ByteArray) (fr:Int) (h:(jf T q fr).2.2=0):(jf T q fr).2.1=(bk q).2.1:=by
 unfold jf at h⊢
 split
 ·rename_i c1
  rw[if_pos c1]at h
  split
  ·rename_i c2
   rw[if_pos c2]at h
   split
   ·rename_i c3
    rw[if_pos c3]at h
    split
    ·rename_i c4
     rw[if_pos c4]at h
     split
     ·rename_i c5;rw[if_pos c5]at h;cases h
     ·rfl
    ·rename_i c4;rw[if_neg c4]at h;cases h
   ·rename_i c3;rw[if_neg c3]at h;cases h
  ·rename_i c2;rw[if_neg c2]at h;exact absurd h c2
 ·rename_i c1;rw[if_neg c1]at h;cases h
theorem adx {T:List aW}(g:Gt T) (nx:Int) (p q:ByteArray):Gt (wE T nx p q).1:=by
 unfold wE
 split
 ·rename_i c
  have t:=(nD T nx).1 c.1;have h30:=t.n30
  split
  ·split
   ·exact g
   ·split
    ·rename_i d
     have g1:Gt (pZ T p):=Gt.set g.s (by omega) _ (tM (wF T _ g.s) _);have hl:(pZ T p).length≤T.length+1:=fV _ _
     have h10:(cp (pZ T p) (bk q).1).1.f4.length≤10:=by
      rcases kH (pZ T p) (bk q).1 with e|e
      ·rw[e];decide
      ·rcases lJ _ _ _ e with e|e
       ·rw[e];refine Nat.le_trans (List.length_filter_le ..) ?_;rcases kH T (bk p).1 with e|e
        ·rw[e];decide
        ·exact(nf t e).1
       ·exact(nf t e).1
     have hy:=wF (pZ T p) (bk q).1 g1.s;refine Gt.set g1.s (by omega) _ (tL hy _ (by rw[qK];omega) fun y hy2=> ?_);rcases vm _ _ _ _ _ hy2 with h|rfl
     ·exact hy.en y h
     ·show(jf T q (fv T (bk p).1).1).2.1.size≤1048576
      rw[wG T q _ d];exact pv q c.2.2
    ·exact g
  ·exact g
 ·exact g
theorem abQ {T:List aW}(g:Gt T) (nx:Int) (p:ByteArray) (n:Int):Gt (pq T nx p n).1:=by
 unfold pq
 split
 ·rename_i c
  have h30:=(kI c.1).n30
  split
  ·rename_i d
   exact Gt.set g.s (by omega) _ (xj (g.s _ (oo T p d).1) _ (by rw[pT];omega))
  ·exact g
 ·exact g
theorem abR {T:List aW}(g:Gt T) (nx:Int) (p:ByteArray) (o:Int) (x:List Int):Gt (po T nx p o x).1:=by
 unfold po
 split
 ·rename_i c
  have h30:=(kI c.1).n30
  split
  ·rename_i d
   split
   ·exact g
   ·rename_i e
    have hf:=g.s _ (oo T p d).1;have:=hf.d;exact Gt.set g.s (by omega) _ (xj hf _ (by rw[uU];omega))
  ·exact g
 ·exact g
theorem acY {T:List aW}(g:Gt T) (nx:Int) (p nm v:ByteArray):Gt (rX T nx p nm v).1:=by
 unfold rX
 split
 ·rename_i c
  have t:=kI c.1;have h30:=t.n30
  have hn:nm.size≤1048576:=by have:=(oJ _ c.2.1).2.2;omega
  have h4:=(rY T nx p ((ready_one T nx p).1 c.1).1).2;have hr:(qR nm (cp T p).1.f5).length≤4:=Nat.le_trans (List.length_filter_le ..) h4;have hx:=wF T p g.s
  have hrm:∀y∈qR nm (cp T p).1.f5,y.f0.size≤1048576:=fun y hy=>hx.tn y (List.mem_filter.1 hy).1
  split
  ·unfold vk
   split
   ·exact Gt.set g.s (by omega) _ (xl hx _ (by omega) hrm)
   ·split
    ·exact g
    ·refine Gt.set g.s (by omega) _ (xl hx _ (by rw[qK];omega) fun y hy=> ?_);rcases vm _ _ _ _ _ hy with h|rfl
     ·exact hrm y h
     ·exact hn
  ·exact g
 ·exact g
end Go.Proofs.YtkfoopcpihmbmaaGreatDoor.Q
namespace Go.Proofs.YtkfoopcpihmbmaaGreatDoor.Q
open Go.RowKit Go.Proofs.YtkfoopcpihmbmaaGreatDoor.P Go.Proofs.ab.av Go.Proofs.ab.aQ Go.Proofs.ab.aT
theorem sL {l:List aW}(t:∀x∈l,nN x=true):∀k n p,∀q∈og l k n p,q.size≤p.size+15*k
 |0,_,_,q,h=>by cases h
 |k+1,n,p,q,h=>by
  unfold og at h;obtain⟨e,he,hq⟩:=List.mem_flatMap.1 h
  have hn:e.f0.size≤14:=by
   by_cases c:dz l n=true
   ·exact(oJ _ ((iz _ (t _ (fG l n c).1)).2.1 e he).2).2.2
   ·unfold eg at he
    have:dd n l 0<0:=by unfold dz at c;simpa using c
    rw[if_pos this]at he
    cases he
  have hz:=sB p e;rcases List.mem_cons.1 hq with rfl|hq
  ·omega
  ·have:=sL t k e.f1 (oe p e) q hq
   omega
theorem wH (l:List aW) (nx:Int):∀q∈lW (rP l nx),q.size≤1048576:=by
 intro q hq;have hq:=(rR _).2.mem_iff.1 hq;unfold rP at hq
 split at hq
 ·rename_i c
  have t:=ib l nx c;have:=sL t.ok _ _ _ q hq;have h0:(⟨#[]⟩:ByteArray).size=0:=rfl;have:=t.len
  omega
 ·cases hq
theorem yj {b:List Int}{i:Int}(hc:lM b i) (h:Int) {T:List aW}(g:Gt T) (nx:Int):∃s i' h',Ev (fun k=>eI.f k b i h T nx) (s,i',h')∧s.size≤1048576∧lM b i':=by
 have hp:=wB T nx (by have:=g.n;omega) g.s;have hs:=wH T nx;unfold eI.f;generalize lW (rP T nx)=l at*
 have j:∀(f:Bool) (i h:Int),lM b i→(f=true→0<l.length)→∃s i' h',Ev (fun k=>eI.j0 k l f b i h) (s,i',h')∧s.size≤1048576∧lM b i':=by
  intro f i h hc hf
  cases f with
  |true=>
   have hl:=hf rfl;obtain⟨x,i1,h1,e,hx0,hx1,_,hc1⟩:=eR hc h (l.length:Int);have:=hx1 (by omega);refine⟨dr ByteArray.empty l x,i1,h1,?_,?_,hc1⟩
   ·apply bb
    simp only[eI.j0,e,Option.bind_some];exact bx trivial (bx hx0 (bx this (Ev.now _)))
   ·obtain⟨m,rfl⟩:=Int.eq_ofNat_of_zero_le hx0;rw[rdS l m (by omega)];exact hs _ (List.getElem_mem _)
  |false=>
   obtain⟨s,i1,h1,e,hs1,hc1⟩:=uA hc h;refine⟨s,i1,h1,?_,by omega,hc1⟩
   apply bb
   simp only[eI.j0];exact cH (by decide) (Ev.bind e (Ev.now _))
 by_cases c:(l.length:Int)>0
 ·obtain⟨t,i1,h1,e,hc1⟩:=nb hc h 4;obtain⟨s,i2,h2,e2,hs2,hc2⟩:=j (!t) i1 h1 hc1 (fun _=>by omega);refine⟨s,i2,h2,Ev.bind hp (bx c ?_),hs2,hc2⟩;simp only[e,Option.bind_some];exact e2
 ·obtain⟨s,i2,h2,e2,hs2,hc2⟩:=j false i h hc (fun h=>by cases h);exact⟨s,i2,h2,Ev.bind hp (cH c e2),hs2,hc2⟩
def Chg (b:List Int) (f:Nat→Option (List aW×Int×Int×Int)):Prop:=∃T nx i h,Ev f (T,nx,i,h)∧Gt T∧lM b i
theorem abS {b:List Int}{i:Int}(hc:lM b i) (h:Int) {T:List aW}(g:Gt T) (nx:Int) (p q:ByteArray) (hp:p.size≤1048576) (hq:q.size≤1048576) (x:Int) (f:Bool):
  Chg b (fun k=>az.j2 k p q x f b i h T nx):=by
 have hT:T.length≤1048576:=by have:=g.n;omega
 cases f with
 |true=>
  obtain⟨o,i1,h1,e,_,hc1⟩:=kS hc h [0,1,20] (by simp);obtain⟨ys,i2,h2,e2,_,hl,hc2⟩:=yf hc1 h1;refine⟨_,(po T nx p o ys).2.1,i2,h2,?_,abR g nx p o ys,hc2⟩
  apply bb
  simp only[az.j2,e,Option.bind_some];exact bx trivial (Ev.bind e2 (Ev.bind (wu T nx p o ys hT g.s hp (by omega)) (Ev.now _)))
 |false=>
  by_cases c7:x=7
  ·obtain⟨o,i1,h1,e,_,hc1⟩:=kS hc h [0,3,50] (by simp);refine⟨_,(pq T nx p o).2.1,i1,h1,?_,abQ g nx p o,hc1⟩
   apply bb
   simp only[az.j2];refine cH (by decide) (bx c7 ?_);simp only[e,Option.bind_some];exact Ev.bind (wo T nx p o hT g.s hp) (Ev.now _)
  by_cases c8:x=8
  ·refine⟨_,(wD T nx p).2.1,i,h,?_,adw g nx p,hc⟩
   apply bb
   simp only[az.j2];exact cH (by decide) (cH c7 (bx c8 (Ev.bind (yg T nx p hT g.s hp) (Ev.now _))))
  by_cases c9:x=9
  ·refine⟨_,(rV T nx p q).2.1,i,h,?_,acX g nx p q,hc⟩
   apply bb
   simp only[az.j2];exact cH (by decide) (cH c7 (cH c8 (bx c9 (Ev.bind (wy T nx p q hT g.s hp hq) (Ev.now _)))))
  by_cases c10:x=10
  ·refine⟨_,(wE T nx p q).2.1,i,h,?_,adx g nx p q,hc⟩
   apply bb
   simp only[az.j2];exact cH (by decide) (cH c7 (cH c8 (cH c9 (bx c10 (Ev.bind (yi T nx p q hT g.s hp hq) (Ev.now _))))))
  obtain⟨t,i1,h1,e,hc1⟩:=nb hc h 2
  cases t with
  |true=>
   refine⟨_,(wv T nx p).2.1,i1,h1,?_,adv g nx p,hc1⟩
   apply bb
   simp only[az.j2];refine cH (by decide) (cH c7 (cH c8 (cH c9 (cH c10 ?_))));simp only[e,Option.bind_some];exact bx trivial (Ev.bind (abc T nx p hT g.s hp) (Ev.now _))
  |false=>
   obtain⟨nm,i2,h2,e2,hn,hc2⟩:=sH hc1 h1;obtain⟨v,i3,h3,e3,_,hc3⟩:=nc hc2 h2 [(⟨#[120]⟩:ByteArray),(⟨#[]⟩:ByteArray),(⟨#[118,97,108,117,101]⟩:ByteArray)] (by simp);refine⟨_,(rX T nx p nm v).2.1,i3,h3,?_,acY g nx p nm v,hc3⟩
   apply bb
   simp only[az.j2];refine cH (by decide) (cH c7 (cH c8 (cH c9 (cH c10 ?_))));simp only[e,Option.bind_some];refine cH (by decide) ?_;simp only[e2,e3,Option.bind_some];exact Ev.bind (yd T nx p nm v hT g.s hp (by omega)) (Ev.now _)
theorem abT {b:List Int}{i:Int}(hc:lM b i) (h:Int) {T:List aW}(g:Gt T) (nx:Int) (p q:ByteArray) (hp:p.size≤1048576) (hq:q.size≤1048576) (x:Int) (f:Bool):
  Chg b (fun k=>az.j1 k p q x f b i h T nx):=by
 have hT:T.length≤1048576:=by have:=g.n;omega
 cases f with
 |true=>
  refine⟨_,(mw T nx q 1).2.1,i,h,?_,abh g nx q 1,hc⟩
  apply bb
  simp only[az.j1];exact bx trivial (Ev.bind (tE T nx q hT g.s hq) (Ev.now _))
 |false=>
  have j2:=abS hc h g nx p q hp hq x
  by_cases c4:x=4
  ·obtain⟨T',nx',i',h',e,g',hc'⟩:=j2 (x==4);refine⟨T',nx',i',h',?_,g',hc'⟩
   apply bb
   simp only[az.j1];exact cH (by decide) (bx c4 e)
  by_cases c5:x=5
  ·obtain⟨T',nx',i',h',e,g',hc'⟩:=j2 (x==5);refine⟨T',nx',i',h',?_,g',hc'⟩
   apply bb
   simp only[az.j1];exact cH (by decide) (cH c4 (bx c5 e))
  obtain⟨T',nx',i',h',e,g',hc'⟩:=j2 (x==6);refine⟨T',nx',i',h',?_,g',hc'⟩
  apply bb
  simp only[az.j1];exact cH (by decide) (cH c4 (cH c5 e))
theorem abU {b:List Int}{i:Int}(hc:lM b i) (h:Int) {T:List aW}(g:Gt T) (nx:Int) (p q:ByteArray) (hp:p.size≤1048576) (hq:q.size≤1048576) (x:Int) (f:Bool):
  Chg b (fun k=>az.j0 k p q x f b i h T nx):=by
 have hT:T.length≤1048576:=by have:=g.n;omega
 cases f with
 |true=>
  refine⟨_,(mw T nx q 2).2.1,i,h,?_,abh g nx q 2,hc⟩
  apply bb
  simp only[az.j0];exact bx trivial (Ev.bind (uZ T nx q hT g.s hq) (Ev.now _))
 |false=>
  have j1:=abT hc h g nx p q hp hq x
  by_cases c2:x=2
  ·obtain⟨T',nx',i',h',e,g',hc'⟩:=j1 (x==2);refine⟨T',nx',i',h',?_,g',hc'⟩
   apply bb
   simp only[az.j0];exact cH (by decide) (bx c2 e)
  obtain⟨T',nx',i',h',e,g',hc'⟩:=j1 (x==3);refine⟨T',nx',i',h',?_,g',hc'⟩
  apply bb
  simp only[az.j0];exact cH (by decide) (cH c2 e)
theorem vn {b:List Int}{i:Int}(hc:lM b i) (h:Int) {T:List aW}(g:Gt T) (nx:Int):Chg b (fun k=>az.f k b i h T nx):=by
 obtain⟨p,i1,h1,e1,hp,hc1⟩:=yj hc h g nx;obtain⟨q,i2,h2,e2,hq,hc2⟩:=sI hc1 h1;obtain⟨x,i3,h3,e3,_,_,_,hc3⟩:=eR hc2 h2 12;have j0:=abU hc3 h3 g nx p q hp (by omega) x;unfold az.f
 by_cases c0:x=0
 ·obtain⟨T',nx',i',h',e,g',hc'⟩:=j0 (x==0);refine⟨T',nx',i',h',Ev.bind e1 (Ev.bind e2 ?_),g',hc'⟩;simp only[e3,Option.bind_some];exact bx c0 e
 ·obtain⟨T',nx',i',h',e,g',hc'⟩:=j0 (x==1);refine⟨T',nx',i',h',Ev.bind e1 (Ev.bind e2 ?_),g',hc'⟩;simp only[e3,Option.bind_some];exact cH c0 e
theorem qL {b:List Int}:∀(n:Nat) (i h:Int) (T:List aW) (nx:Int),n≤1000000→lM b i→Gt T→Chg b (fun k=>eH.l0 k (n:Int) b i h T nx)
 |0,i,h,T,nx,_,hc,g=>by
  refine⟨T,nx,i,h,?_,g,hc⟩
  apply bb
  simp only[eH.l0];exact cH (by omega) (Ev.now _)
 |n+1,i,h,T,nx,hn,hc,g=>by
  obtain⟨T1,nx1,i1,h1,e1,g1,hc1⟩:=vn hc h g nx;obtain⟨T2,nx2,i2,h2,e2,g2,hc2⟩:=qL n i1 h1 T1 nx1 (by omega) hc1 g1;refine⟨T2,nx2,i2,h2,?_,g2,hc2⟩
  apply bb
  simp only[eH.l0];refine bx (by omega) (Ev.bind e1 ?_);rw[show wrap64 (((n+1:Nat):Int)-1)=(n:Int) by rw[lV (by omega) (by omega)];omega];exact e2
theorem yk {b:List Int}{i:Int}(hc:lM b i) (h m:Int) (h0:0≤m) (h1:m≤1000):Chg b (fun k=>eH.f k b i h m):=by
 obtain⟨x,i1,h1',e,hx0,hx1,_,hc1⟩:=eR hc h (m+4);have:=hx1 (by omega);obtain⟨n,rfl⟩:=Int.eq_ofNat_of_zero_le hx0
 obtain⟨T,nx,i2,h2,e2,g2,hc2⟩:=qL (b:=b) n i1 h1' [⟨1,2,0,[],[],[]⟩] 2 (by omega) hc1 ⟨by simp,by simp,fun x hx=>by
  rw[List.mem_singleton.1 hx]
  exact⟨by simp,by simp,by simp,fun y hy=>by simp at hy,fun y hy=>by simp at hy⟩⟩
 refine⟨T,nx,i2,h2,?_,g2,hc2⟩;unfold eH.f jv.f;rw[lV (n:=m+4) (by omega) (by omega)];simp only[e,Option.bind_some];exact e2
end Go.Proofs.YtkfoopcpihmbmaaGreatDoor.Q
namespace Go.Proofs.YtkfoopcpihmbmaaGreatDoor.Q
open Go.RowKit Go.Proofs.YtkfoopcpihmbmaaGreatDoor.P Go.Proofs.ab.av Go.Proofs.ab.aQ Go.Proofs.ab.aT
structure Sm (x:aW):Prop where
 d:x.f3.length≤200
 e:x.f4.length≤200
 t:x.f5.length≤200
 en:∀y∈x.f4,y.f0.size≤200
 tn:∀y∈x.f5,y.f0.size≤200
theorem Sm.ino {x:aW}(h:Sm x):iy x:=⟨by have:=h.d;omega,by have:=h.e;omega,by have:=h.t;omega,fun y hy=>by have:=h.en y hy;omega,fun y hy=>by have:=h.tn y hy;omega⟩
def Ind (b:List Int) (f:Nat→Option (Int×Int×Int×List Int×List cD×List bj×Int×Int)):Prop:=
 ∃(x:aW) (i h:Int),Ev f (x.f0,x.f1,x.f2,x.f3,x.f4,x.f5,i,h)∧Sm x∧lM b i
abbrev nm4:List ByteArray:=[(⟨#[97]⟩:ByteArray),(⟨#[98]⟩:ByteArray),(⟨#[99]⟩:ByteArray),(⟨#[100,46,116,120,116]⟩:ByteArray)]
theorem abi (j:Nat) (h:j<4):(dr ByteArray.empty nm4 (j:Int)).size≤200:=by
 rw[rdS nm4 j (by simpa using h)];have:=kT nm4 5 (by decide) _ (List.getElem_mem (l:=nm4) (n:=j) (by simpa using h))
 omega
theorem abV {b:List Int}(a1 a2 a3:Int) (d:List Int) (e:List cD) (hd:d.length≤200) (he:e.length≤100) (hen:∀y∈e,y.f0.size≤200) (n:Nat):
  ∀(j:Nat) (acc:List bj) (i h:Int),2-j=n→j≤2→acc.length≤j→(∀y∈acc,y.f0.size≤200)→lM b i→Ind b (fun k=>aX.l1 k nm4 (j:Int) b i h a1 a2 a3 d e acc):=by
 induction n with
 |zero=>
  intro j acc i h hn hj ha hz hc;refine⟨⟨a1,a2,a3,d,e,acc⟩,i,h,?_,⟨hd,by show e.length≤200;omega,by show acc.length≤200;omega,hen,hz⟩,hc⟩
  apply bb
  simp only[aX.l1];exact cH (by omega) (Ev.now _)
 |succ n ih=>
  intro j acc i h hn hj ha hz hc;obtain⟨t,i1,h1,e1,hc1⟩:=nb hc h 3
  cases t with
  |true=>
   obtain⟨v,i2,h2,e2,_,hc2⟩:=nc hc1 h1 [(⟨#[120]⟩:ByteArray),(⟨#[118,97,108,117,101]⟩:ByteArray),(⟨#[115,105,120,116,101,101,110,98,121,116,101,115,120,120,120,120]⟩:ByteArray)] (by simp)
   obtain⟨x,i3,h3,e3,hx,hc3⟩:=ih (j+1) (acc++[⟨dr ByteArray.empty nm4 (j:Int),v⟩]) i2 h2 (by omega) (by omega) (by simp;omega) (fun y hy=>by
    rcases List.mem_append.1 hy with hy|hy
    ·exact hz y hy
    ·rw[List.mem_singleton.1 hy];exact abi j (by omega)) hc2
   refine⟨x,i3,h3,?_,hx,hc3⟩
   apply bb
   simp only[aX.l1,e1,e2,Option.bind_some];rw[qa j 2 (by omega) (by omega)];exact bx (by omega) (bx trivial (bx (by omega) (bx (by show(j:Int)<4;omega) (bx (by omega) e3))))
  |false=>
   obtain⟨x,i3,h3,e3,hx,hc3⟩:=ih (j+1) acc i1 h1 (by omega) (by omega) (by omega) hz hc1;refine⟨x,i3,h3,?_,hx,hc3⟩
   apply bb
   simp only[aX.l1,e1,Option.bind_some];rw[qa j 2 (by omega) (by omega)];exact bx (by omega) (cH (by decide) e3)
theorem xm {b:List Int}{i:Int}(hc:lM b i) (h a1 a2 a3:Int) (d:List Int) (e:List cD) (hd:d.length≤200) (he:e.length≤100) (hen:∀y∈e,y.f0.size≤200):
  Ind b (fun k=>aX.j1 k nm4 b i h a1 a2 a3 d e):=by
 obtain⟨x,i1,h1,e1,hx,hc1⟩:=abV a1 a2 a3 d e hd he hen 2 0 [] i h rfl (by omega) (by simp) (fun y hy=>by cases hy) hc;refine⟨x,i1,h1,?_,hx,hc1⟩
 apply bb
 simp only[aX.j1];exact e1
theorem abW {b:List Int}(a1 a2 a3:Int) (n:Nat):
  ∀(j:Nat) (acc:List cD) (i h:Int),4-j=n→j≤4→acc.length≤j→(∀y∈acc,y.f0.size≤200)→lM b i→Ind b (fun k=>aX.l0 k nm4 (j:Int) b i h a1 a2 a3 acc):=by
 induction n with
 |zero=>
  intro j acc i h hn hj ha hz hc;obtain⟨x,i1,h1,e1,hx,hc1⟩:=xm hc h a1 a2 a3 [] acc (by simp) (by omega) hz;refine⟨x,i1,h1,?_,hx,hc1⟩
  apply bb
  simp only[aX.l0];exact cH (by omega) e1
 |succ n ih=>
  intro j acc i h hn hj ha hz hc;obtain⟨t,i1,h1,e1,hc1⟩:=nb hc h 2
  cases t with
  |true=>
   obtain⟨v,i2,h2,e2,_,_,_,hc2⟩:=eR hc1 h1 8
   obtain⟨x,i3,h3,e3,hx,hc3⟩:=ih (j+1) (acc++[⟨dr ByteArray.empty nm4 (j:Int),wrap64 (2+v)⟩]) i2 h2 (by omega) (by omega) (by simp;omega) (fun y hy=>by
    rcases List.mem_append.1 hy with hy|hy
    ·exact hz y hy
    ·rw[List.mem_singleton.1 hy];exact abi j (by omega)) hc2
   refine⟨x,i3,h3,?_,hx,hc3⟩
   apply bb
   simp only[aX.l0,e1,e2,Option.bind_some];rw[qa j 4 (by omega) (by omega)];exact bx (by omega) (bx trivial (bx (by omega) (bx (by show(j:Int)<4;omega) (bx (by omega) e3))))
  |false=>
   obtain⟨x,i3,h3,e3,hx,hc3⟩:=ih (j+1) acc i1 h1 (by omega) (by omega) (by omega) hz hc1;refine⟨x,i3,h3,?_,hx,hc3⟩
   apply bb
   simp only[aX.l0,e1,Option.bind_some];rw[qa j 4 (by omega) (by omega)];exact bx (by omega) (cH (by decide) e3)
theorem yl {b:List Int}{i:Int}(hc:lM b i) (h:Int):∃(x:aW) (i' h':Int),Ev (fun k=>aX.f k b i h) (x.f0,x.f1,x.f2,x.f3,x.f4,x.f5,i',h')∧Sm x∧lM b i':=by
 obtain⟨x,i1,h1,e1,_,_,_,hc1⟩:=eR hc h 6;obtain⟨y,i2,h2,e2,_,_,_,hc2⟩:=eR hc1 h1 2;unfold aX.f;simp only[e1,e2,Option.bind_some]
 by_cases c:wrap64 (1+y)=1
 ·obtain⟨o,i3,h3,e3,ho,hc3⟩:=kS hc2 h2 [0,1,5,20,100] (by simp)
  have ho':0≤o∧o≤100:=by simp at ho;omega
  obtain⟨ys,i4,h4,e4,_,hl,hc4⟩:=sa hc3 h3 o (by omega);obtain⟨z,i5,h5,e5,_,_,_,hc5⟩:=eR hc4 h4 2;obtain⟨q,i6,h6,e6,hq,hc6⟩:=xm hc5 h5 (wrap64 (2+x)) (wrap64 (1+y)) (wrap64 (1+z)) ys [] (by omega) (by simp) (fun y hy=>by cases hy);refine⟨q,i6,h6,bx c ?_,hq,hc6⟩;simp only[e3,Option.bind_some];refine Ev.bind e4 ?_;simp only[e5,Option.bind_some];exact e6
 ·obtain⟨q,i6,h6,e6,hq,hc6⟩:=abW (b:=b) (wrap64 (2+x)) (wrap64 (1+y)) 1 4 0 [] i2 h2 rfl (by omega) (by simp) (fun y hy=>by cases hy) hc2;exact⟨q,i6,h6,cH c e6,hq,hc6⟩
theorem vo {b:List Int}{i:Int}(hc:lM b i) (h:Int):∃(x:aW) (i' h':Int),Ev (fun k=>dc.f k b i h) (x.f0,x.f1,x.f2,x.f3,x.f4,x.f5,i',h')∧iy x∧lM b i':=by
 obtain⟨x,i1,h1,e1,hx,hc1⟩:=yl hc h;obtain⟨y,i2,h2,e2,_,_,_,hc2⟩:=eR hc1 h1 14;have hd:=hx.d;have he:=hx.e;have ht:=hx.t;have hI:=hx.ino;unfold dc.f
 by_cases c0:y=0
 ·obtain⟨v,i3,h3,e3,_,hc3⟩:=kS hc2 h2 [0,1,1000,1001] (by simp);refine⟨⟨v,x.f1,x.f2,x.f3,x.f4,x.f5⟩,i3,h3,Ev.bind e1 ?_,⟨hI.d,hI.e,hI.t,hI.en,hI.tn⟩,hc3⟩;simp only[e2,e3,Option.bind_some];exact bx c0 (Ev.now _)
 by_cases c1:y=1
 ·obtain⟨v,i3,h3,e3,_,_,_,hc3⟩:=eR hc2 h2 4;refine⟨⟨x.f0,v,x.f2,x.f3,x.f4,x.f5⟩,i3,h3,Ev.bind e1 ?_,⟨hI.d,hI.e,hI.t,hI.en,hI.tn⟩,hc3⟩;simp only[e2,e3,Option.bind_some];exact cH c0 (bx c1 (Ev.now _))
 by_cases c3:y=2
 ·obtain⟨v,i3,h3,e3,_,hc3⟩:=kS hc2 h2 [(-1),0,2,1001] (by simp);refine⟨⟨x.f0,x.f1,v,x.f3,x.f4,x.f5⟩,i3,h3,Ev.bind e1 ?_,⟨hI.d,hI.e,hI.t,hI.en,hI.tn⟩,hc3⟩;simp only[e2,e3,Option.bind_some];exact cH c0 (cH c1 (bx c3 (Ev.now _)))
 by_cases c4:y=3
 ·refine⟨⟨x.f0,x.f1,x.f2,x.f3++[1],x.f4,x.f5⟩,i2,h2,Ev.bind e1 ?_,⟨by show(x.f3++[1]).length≤1048576;rw[List.length_append,List.length_singleton];omega,hI.e,hI.t,hI.en,hI.tn⟩,hc2⟩;simp only[e2,Option.bind_some];exact cH c0 (cH c1 (cH c3 (bx c4 (bx (by omega) (Ev.now _)))))
 by_cases c5:y=4
 ·obtain⟨v,i3,h3,e3,hv,hc3⟩:=nc hc2 h2 [(⟨#[97]⟩:ByteArray),(⟨#[122]⟩:ByteArray),(⟨#[]⟩:ByteArray),(⟨#[90]⟩:ByteArray)] (by simp);obtain⟨o,i4,h4,e4,_,hc4⟩:=kS hc3 h3 [1,2,1000,1001] (by simp);have hvs:=kT _ 200 (by decide) v hv;refine⟨⟨x.f0,x.f1,x.f2,x.f3,x.f4++[⟨v,o⟩],x.f5⟩,i4,h4,Ev.bind e1 ?_,⟨hI.d,by show(x.f4++[_]).length≤1048576;rw[List.length_append,List.length_singleton];omega,hI.t,fun y hy=> ?_,hI.tn⟩,hc4⟩
  ·simp only[e2,e3,e4,Option.bind_some];exact cH c0 (cH c1 (cH c3 (cH c4 (bx c5 (bx (by omega) (Ev.now _))))))
  ·rcases List.mem_append.1 hy with hy|hy
   ·exact hI.en y hy
   ·rw[List.mem_singleton.1 hy];show v.size≤1048576;omega
 by_cases c6:y=5
 ·obtain⟨v,i3,h3,e3,hv,hc3⟩:=nc hc2 h2 [(⟨#[97]⟩:ByteArray),(⟨#[122]⟩:ByteArray),(⟨#[]⟩:ByteArray)] (by simp);obtain⟨o,i4,h4,e4,ho0,ho1,_,hc4⟩:=eR hc3 h3 3;have:=ho1 (by omega);have hvs:=kT _ 200 (by decide) v hv;have hw:wrap64 (15+o)=15+o:=lV (by omega) (by omega);refine⟨⟨x.f0,x.f1,x.f2,x.f3,x.f4,x.f5++[⟨v,strOfNums (List.replicate (15+o).toNat 0)⟩]⟩,i4,h4,Ev.bind e1 ?_,⟨hI.d,hI.e,by show(x.f5++[_]).length≤1048576;rw[List.length_append,List.length_singleton];omega,hI.en,fun y hy=> ?_⟩,hc4⟩
  ·simp only[e2,e3,e4,hw,Option.bind_some];exact cH c0 (cH c1 (cH c3 (cH c4 (cH c5 (bx c6 (bx (by omega) (bx (by omega) (bx (by omega) (Ev.now _)))))))))
  ·rcases List.mem_append.1 hy with hy|hy
   ·exact hI.tn y hy
   ·rw[List.mem_singleton.1 hy];show v.size≤1048576;omega
 refine⟨x,i2,h2,Ev.bind e1 ?_,hI,hc2⟩;simp only[e2,Option.bind_some];exact cH c0 (cH c1 (cH c3 (cH c4 (cH c5 (cH c6 (Ev.now _))))))
structure Gb (T:List aW):Prop where
 n:T.length≤41
 s:∀x∈T,iy x
theorem aaU {b:List Int}{i:Int}(hc:lM b i) (h:Int):∃(T:List aW) (nx i' h':Int),Ev (fun k=>cE.f k b i h) (T,nx,i',h')∧Gb T∧lM b i':=by
 obtain⟨T,nx,i1,h1,e1,g,hc1⟩:=yk hc h 8 (by omega) (by omega);obtain⟨y,i2,h2,e2,_,_,_,hc2⟩:=eR hc1 h1 12;have hn:=g.n;have hn1:=g.n1;have gb:Gb T:=⟨by omega,g.s⟩;unfold cE.f
 by_cases c0:y=0
 ·obtain⟨v,i3,h3,e3,_,hc3⟩:=kS hc2 h2 [1,2,1000,1001] (by simp);refine⟨T,v,i3,h3,Ev.bind e1 ?_,gb,hc3⟩;simp only[e2,e3,Option.bind_some];exact bx c0 (Ev.now _)
 by_cases c1:y=1
 ·obtain⟨x,i3,h3,e3,hx,hc3⟩:=vo hc2 h2;refine⟨T++[x],nx,i3,h3,Ev.bind e1 ?_,⟨by simp;omega,fun z hz=> ?_⟩,hc3⟩
  ·simp only[e2,Option.bind_some];exact cH c0 (bx c1 (Ev.bind e3 (bx (by omega) (Ev.now _))))
  ·rcases List.mem_append.1 hz with hz|hz
   ·exact g.s z hz
   ·rw[List.mem_singleton.1 hz];exact hx
 by_cases c3:y=2
 ·obtain⟨o,i3,h3,e3,ho0,ho1,_,hc3⟩:=eR hc2 h2 (T.length:Int);obtain⟨x,i4,h4,e4,hx,hc4⟩:=vo hc3 h3;have:=ho1 (by omega);refine⟨T.set o.toNat x,nx,i4,h4,Ev.bind e1 ?_,⟨by rw[List.length_set];omega,fun z hz=> ?_⟩,hc4⟩
  ·simp only[e2,e3,Option.bind_some];exact cH c0 (cH c1 (bx c3 (Ev.bind e4 (bx ho0 (bx this (Ev.now _))))))
  ·rcases List.mem_or_eq_of_mem_set hz with hz|rfl
   ·exact g.s z hz
   ·exact hx
 by_cases c4:y=3
 ·obtain⟨o,i3,h3,e3,ho0,ho1,_,hc3⟩:=eR hc2 h2 (wrap64 ((T.length:Int)+1));have hw:wrap64 ((T.length:Int)+1)=(T.length:Int)+1:=lV (by omega) (by omega);rw[hw]at ho1;have:=ho1 (by omega);refine⟨T.take o.toNat,nx,i3,h3,Ev.bind e1 ?_,⟨by rw[List.length_take];omega,fun z hz=>g.s z (List.mem_of_mem_take hz)⟩,hc3⟩;simp only[e2,e3,Option.bind_some];exact cH c0 (cH c1 (cH c3 (bx c4 (bx ho0 (bx (by omega) (Ev.now _))))))
 refine⟨T,nx,i2,h2,Ev.bind e1 ?_,gb,hc2⟩;simp only[e2,Option.bind_some];exact cH c0 (cH c1 (cH c3 (cH c4 (Ev.now _))))
end Go.Proofs.YtkfoopcpihmbmaaGreatDoor.Q
namespace Go.Proofs.YtkfoopcpihmbmaaGreatDoor.Q
open Go.RowKit Go.Proofs.YtkfoopcpihmbmaaGreatDoor.P Go.Proofs.ab.av Go.Proofs.ab.aQ Go.Proofs.ab.aT
def pN (T:List aW) (s:ByteArray):List ByteArray×Int:=
 if(cp T s).2=0 then(if(cp T s).1.f1=2 then((cp T s).1.f4.map fun e=>e.f0,0)else([],3))else([],(cp T s).2)
theorem qM {γ:Type}(L:Nat→List ByteArray→Int→Option γ) (xs:List cD) (F:List ByteArray→γ) (hl:xs.length≤1048576) (h1:∀acc:List ByteArray,Ev (fun k=>L k acc (xs.length:Nat)) (F acc))
  (h2:∀(i:Nat) (hi:i<xs.length) (acc:List ByteArray),acc.length=i→∀R,Ev (fun k=>L k (acc++[xs[i].f0]) ((i+1:Nat):Int)) R→Ev (fun k=>L k acc (i:Nat)) R):Ev (fun k=>L k [] 0) (F (xs.map fun e=>e.f0)):=by
 have key:∀m i:Nat,xs.length-i=m→i≤xs.length→Ev (fun k=>L k ((xs.take i).map fun e=>e.f0) (i:Nat)) (F (xs.map fun e=>e.f0)):=by
  intro m
  induction m with
  |zero=>
   intro i hm hi
   obtain rfl:i=xs.length:=by omega
   rw[List.take_length];exact h1 _
  |succ m ih=>
   intro i hm hi;have:=ih (i+1) (by omega) (by omega);rw[List.take_succ_eq_append_getElem (by omega),List.map_append]at this;exact h2 i (by omega) _ (by rw[List.length_map,List.length_take];omega) _ this
 simpa using key xs.length 0 (by omega) (by omega)
theorem xE (T:List aW) (nx:Int) (s:ByteArray) (hT:T.length≤1048576) (hs:∀x∈T,fJ x) (h:s.size≤1048576):Ev (fun k=>fe.f k T nx s) (pN T s):=by
 unfold fe.f pN;have hx:=(gm T s hs).e;refine Ev.bind (sw T nx s hT hs h) ?_;refine vq (fun _=>vq (fun _=> ?_) (fun _=>Ev.now _)) (fun _=>Ev.now _);refine qM (fun k acc i=>fe.l0 k acc (cp T s).1.f4 (cp T s).1.f4.length i) (cp T s).1.f4 (fun a=>(a,0)) hx (fun acc=> ?_) (fun i hi acc ha R hR=> ?_)
 ·apply bb
  simp only[fe.l0];exact cH (by omega) (Ev.now _)
 ·have hr:aA (cp T s).1.f4 (i:Int)=(cp T s).1.f4[i]:=getD_at _ _ i hi
  apply bb
  simp only[fe.l0];rw[qa i _ hi (by omega),hr];exact bx (by omega) (bx (by omega) (bx (by omega) (bx (by omega) hR)))
theorem xF (T:List aW) (nx:Int) (s:ByteArray) (hT:T.length≤1048576) (hs:∀x∈T,fJ x) (h:s.size≤1048576):Ev (fun k=>ff.f k T nx s) (pN T s):=by
 unfold ff.f pN;have hx:=(gm T s hs).e;simp only[Option.bind_some];refine Ev.bind (jk T nx s hT hs h) ?_;refine vq (fun _=>vq (fun _=> ?_) (fun _=>Ev.now _)) (fun _=>Ev.now _);refine qM (fun k acc i=>ff.l0 k acc i (cp T s).1.f0 (cp T s).1.f1 (cp T s).1.f2 (cp T s).1.f3 (cp T s).1.f4 (cp T s).1.f5) (cp T s).1.f4 (fun a=>(a,0)) hx (fun acc=> ?_) (fun i hi acc ha R hR=> ?_)
 ·apply bb
  simp only[ff.l0];exact cH (by omega) (Ev.now _)
 ·have hr:aA (cp T s).1.f4 (i:Int)=(cp T s).1.f4[i]:=getD_at _ _ i hi
  apply bb
  simp only[ff.l0];rw[qa i _ hi (by omega),hr];exact bx (by omega) (bx (by omega) (bx (by omega) hR))
end Go.Proofs.YtkfoopcpihmbmaaGreatDoor.Q
