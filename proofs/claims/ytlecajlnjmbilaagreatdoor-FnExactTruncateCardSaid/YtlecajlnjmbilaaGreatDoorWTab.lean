-- Words of the kit's print, trimmed to what this seat's texts use (wip/trim.py). No condition.
import Derived.Test.YtlecajlnjmbilaaGreatDoorWLast
import Derived.Test.YtlecajlnjmbilaaGreatDoorWWords
namespace Go.Proofs.ab.aV
open Go.Proofs.ab.ar (ae)
def nM (md:Region.Mode) (o:Oper):List Nat:=(o.after.toList.filter (fun e=>Region.binds md e)).map (fun e=>e.on)
def sJ (md:Region.Mode) (ops:Array Oper) (i:Nat) (oi:Oper):List Nat:=(List.range ops.size).filter fun j=> !(j==i)&&match ops[j]? with
 |some oj=> !(oj.after.any (fun e=>Region.binds md e&&e.on==i)||oi.apart ops oj)
 |none=>false
def gj (md:Region.Mode) (ops:Array Oper):Bool×List (List Nat×List Nat):=(Region.noSelect ops,(List.range ops.size).map fun i=>match ops[i]? with
 |some o=>(nM md o,sJ md ops i o)
 |none=>([],[]))
def lN (T:List (List Nat×List Nat)) (l:List Bool) (i:Nat):Bool:= !l.getD i true&&match T[i]? with
 |some r=>r.1.all (fun j=>l.getD j false)
 |none=>false
def nw (T:List (List Nat×List Nat)) (l:List Bool):List Nat:=(List.range T.length).filter (lN T l)
def tF (T:List (List Nat×List Nat)) (l:List Bool) (i:Nat):Bool:=match T[i]? with
 |some r=>r.2.all (fun j=>l.getD j true)
 |none=>false
def qx (T:List (List Nat×List Nat)) (l:List Bool):Bool:=(List.range T.length).all fun j=> !l.getD j false||match T[j]? with
 |some r=>r.1.all (fun k=>l.getD k false)
 |none=>true
def pD (T:List (List Nat×List Nat)) (i:Nat):Nat→Nat→Bool
 |0,_=>false
 |fuel+1,d=>match T[d]? with
  |some r=>r.1.any fun j=>j==i||pD T i fuel j
  |none=>false
def lastT (T:List (List Nat×List Nat)) (l:List Bool) (ds:List Nat) (i:Nat):Bool:=ds.all fun d=>l.getD d true||pD T i T.length d
section
variable {md:Region.Mode}{ops:Array Oper}{T:Bool×List (List Nat×List Nat)}{l l' li lj lk:Array Bool}{ds:List Nat}{i j k:Nat}
theorem gd (l:Array Bool) (j:Nat) (b:Bool):l.getD j b=l.toList.getD j b:=by simp[Array.getD_eq_getD_getElem?,List.getD_eq_getElem?_getD]
theorem rX (o:Oper) (p:Nat→Bool):o.after.all (fun e=> !Region.binds md e||p e.on)=(nM md o).all p:=by
 unfold nM;rw[←Array.all_toList]
 induction o.after.toList with
 |nil=>rfl
 |cons e r ih=>
  rw[List.all_cons,ih,List.filter_cons]
  cases h:Region.binds md e<;>simp
theorem wO (o:Oper) (p:Nat→Bool):o.after.any (fun e=>Region.binds md e&&p e.on)=(nM md o).any p:=by
 unfold nM;rw[←Array.any_toList]
 induction o.after.toList with
 |nil=>rfl
 |cons e r ih=>
  rw[List.any_cons,ih,List.filter_cons]
  cases h:Region.binds md e<;>simp
theorem lO:(gj md ops).2.length=ops.size:=by simp[gj]
theorem nN {o:Oper}(h:ops[i]? =some o):(gj md ops).2[i]? =some (nM md o,sJ md ops i o):=by
 have hi:=(Array.getElem?_eq_some_iff.1 h).1;unfold gj;rw[List.getElem?_map,List.getElem?_range hi,Option.map_some,h]
theorem nO (h:ops[i]? =none):(gj md ops).2[i]? =none:=by
 have hi:ops.size≤i:=Array.getElem?_eq_none_iff.1 h;exact List.getElem?_eq_none (by rw[lO];exact hi)
theorem uQ:lN (gj md ops).2 l.toList i=(!l.getD i true&&((ops[i]?).map (·.after.all fun e=> !Region.binds md e||l.getD e.on false)).getD false):=by
 unfold lN;rw[gd]
 cases h:ops[i]? with
 |none=>rw[nO h];rfl
 |some o=>
  rw[nN h];simp only[Option.map_some,Option.getD_some];rw[←rX];simp only[gd]
theorem ready_eq:Region.ready md ops l=nw (gj md ops).2 l.toList:=by
 unfold Region.ready nw;rw[lO];refine List.filter_congr (fun i _=> ?_);rw[uQ]
theorem free_eq:Region.free md ops l i=tF (gj md ops).2 l.toList i:=by
 unfold Region.free tF
 cases h:ops[i]? with
 |none=>rw[nO h]
 |some oi=>
  rw[nN h];simp only[sJ];rw[List.all_filter]
  congr 1
  funext j
  rw[gd]
  cases hj:ops[j]? with
  |none=>cases (j==i)<;>cases (l.toList.getD j true)<;>simp
  |some oj=>
   cases (j==i)<;>cases (l.toList.getD j true)<;>cases (oj.after.any (fun e=>Region.binds md e&&e.on==i)||oi.apart ops oj)<;>simp_all
theorem wP:Region.pd md ops l=qx (gj md ops).2 l.toList:=by
 unfold Region.pd qx;rw[lO]
 congr 1
 funext j
 rw[gd]
 cases h:ops[j]? with
 |none=>rw[nO h]
 |some o=>
  rw[nN h];simp only;rw[←rX];simp only[gd]
theorem reach_eq:∀(fuel d:Nat),Region.kY md ops i fuel d=pD (gj md ops).2 i fuel d
 |0,_=>rfl
 |fuel+1,d=>by
  unfold Region.kY pD
  cases h:ops[d]? with
  |none=>rw[nO h]
  |some o=>
   rw[nN h];simp only;rw[←wO]
   congr 1
   funext e
   rw[reach_eq fuel]
theorem abV:Region.lastB md ops l ds i=lastT (gj md ops).2 l.toList ds i:=by
 unfold Region.lastB lastT;rw[lO]
 congr 1
 funext d
 rw[gd,reach_eq]
theorem pP (h:lN T.2 l.toList i=true) (hT:gj md ops=T):(Region.ready md ops l).contains i=true:=by
 subst hT;rw[ready_eq];unfold nw;rw[List.contains_iff_mem,List.mem_filter,List.mem_range];refine⟨?_,h⟩;unfold lN at h;rw[Bool.and_eq_true]at h
 cases hq:(gj md ops).2[i]? with
 |none=>rw[hq]at h;simp at h
 |some r=>exact(List.getElem?_eq_some_iff.1 hq).1
theorem qQ (h:(l.toList.set i true==l'.toList)=true):(l.setIfInBounds i true==l')=true:=by
 rw[beq_iff_eq]at h⊢
 apply Array.ext'
 rw[Array.toList_setIfInBounds];exact h
def abN (T:Bool×List (List Nat×List Nat)) (l l':List Bool) (i:Nat):Bool:=T.1&&tF T.2 l i&&lN T.2 l i&&(l.set i true==l')
theorem aai (hT:gj md ops=T) (h:abN T l.toList l'.toList i=true):aam md ops l l' i=true:=by
 simp only[abN,Bool.and_eq_true]at h;obtain⟨⟨⟨h1,h2⟩,h3⟩,h4⟩:=h;have h5:=pP h3 hT;have h6:=qQ h4;subst hT;simp only[aam,Bool.and_eq_true];exact⟨⟨⟨h1,by rw[free_eq];exact h2⟩,h5⟩,h6⟩
def aaF (T:Bool×List (List Nat×List Nat)) (ds:List Nat) (l l':List Bool) (i:Nat):Bool:=T.1&&tF T.2 l i&&lN T.2 l i&&qx T.2 l&&lastT T.2 l ds i&&(l.set i true==l')
theorem abW (hT:gj md ops=T) (h:aaF T ds l.toList l'.toList i=true):takeB md ops ds l l' i=true:=by
 simp only[aaF,Bool.and_eq_true]at h;obtain⟨⟨⟨⟨⟨h1,h2⟩,h3⟩,h4⟩,h5⟩,h6⟩:=h;have h7:=pP h3 hT;have h8:=qQ h6;subst hT;simp only[takeB,Bool.and_eq_true];exact⟨⟨⟨⟨⟨h1,by rw[free_eq];exact h2⟩,h7⟩,by rw[wP];exact h4⟩,by rw[abV];exact h5⟩,h8⟩
theorem sw (hT:gj md ops=T) (h:(nw T.2 l.toList==[i]&&l.toList.set i true==l'.toList)=true):ox md ops l l' i=true:=by
 simp only[Bool.and_eq_true]at h;obtain⟨h1,h2⟩:=h;subst hT;simp only[ox,Bool.and_eq_true];exact⟨by rw[ready_eq];exact h1,qQ h2⟩
theorem ac1 (hT:gj md ops=T) (h:(nw T.2 l.toList==[i,j]&&l.toList.set i true==li.toList&&l.toList.set j true==lj.toList)=true):(Region.ready md ops l==[i,j]&&l.setIfInBounds i true==li&&l.setIfInBounds j true==lj)=true:=by
 simp only[Bool.and_eq_true]at h⊢;obtain⟨⟨h1,h2⟩,h3⟩:=h;subst hT;exact⟨⟨by rw[ready_eq];exact h1,qQ h2⟩,qQ h3⟩
theorem abO (hT:gj md ops=T) (h:(nw T.2 l.toList==[])=true):(Region.ready md ops l==[])=true:=by
 subst hT;rw[ready_eq];exact h
def upM (B:List Nat) (d:Nat):List Nat→Nat
 |[]=>0
 |n::r=>(2^n|||(if n<d then B.getD n 0 else 0))|||upM B d r
def eI (T:List (List Nat×List Nat)) (B:List Nat):Bool:=(List.range T.length).all fun d=>match T[d]? with
 |some r=>(B.getD d 0|||upM B d r.1)==upM B d r.1
 |none=>false
theorem wh {B:List Nat}{d i:Nat}:∀{ns:List Nat},(upM B d ns).testBit i=true→∃n∈ns,n=i∨(n<d∧(B.getD n 0).testBit i=true)
 |[],h=>by simp[upM]at h
 |n::r,h=>by
  unfold upM at h;rw[Nat.testBit_or,Nat.testBit_or,Bool.or_eq_true,Bool.or_eq_true]at h;rcases h with(h|h)|h
  ·rw[Nat.testBit_two_pow]at h;exact⟨n,List.mem_cons_self,.inl (by simpa using h)⟩
  ·by_cases hn:n<d
   ·rw[if_pos hn]at h;exact⟨n,List.mem_cons_self,.inr ⟨hn,h⟩⟩
   ·rw[if_neg hn]at h;simp at h
  ·obtain⟨m,hm,h2⟩:=wh h;exact⟨m,List.mem_cons_of_mem _ hm,h2⟩
theorem rY {T:List (List Nat×List Nat)}{B:List Nat}(hB:eI T B=true):∀(fuel d:Nat),d<fuel→d<T.length→(B.getD d 0).testBit i=true→pD T i fuel d=true
 |0,d,h,_,_=>by omega
 |fuel+1,d,h,hd,hb=>by
  have h1:=List.all_eq_true.1 hB d (List.mem_range.2 hd)
  cases hr:T[d]? with
  |none=>rw[hr]at h1;simp at h1
  |some r=>
   rw[hr]at h1;simp only[beq_iff_eq]at h1
   have h2:(upM B d r.1).testBit i=true:=by rw[←h1,Nat.testBit_or,hb,Bool.true_or]
   obtain⟨n,hn,h3⟩:=wh h2;unfold pD;rw[hr];simp only;rw[List.any_eq_true];refine⟨n,hn,?_⟩;rcases h3 with rfl|⟨h4,h5⟩
   ·simp
   ·rw[rY hB fuel n (by omega) (by omega) h5,Bool.or_true]
def acj (T:List (List Nat×List Nat)) (B:List Nat) (l:List Bool) (ds:List Nat) (i:Nat):Bool:=ds.all fun d=>l.getD d true||(decide (d<T.length)&&(B.getD d 0).testBit i)
def aaj (T:Bool×List (List Nat×List Nat)) (B:List Nat) (ds:List Nat) (l l':List Bool) (i:Nat):Bool:=T.1&&tF T.2 l i&&lN T.2 l i&&qx T.2 l&&acj T.2 B l ds i&&(l.set i true==l')
theorem aal {B:List Nat}(hT:gj md ops=T) (hB:eI T.2 B=true) (h:aaj T B ds l.toList l'.toList i=true):takeB md ops ds l l' i=true:=by
 refine abW hT ?_;simp only[aaj,aaF,Bool.and_eq_true]at h⊢;obtain⟨⟨⟨⟨⟨h1,h2⟩,h3⟩,h4⟩,h5⟩,h6⟩:=h;refine⟨⟨⟨⟨⟨h1,h2⟩,h3⟩,h4⟩,?_⟩,h6⟩;unfold acj at h5;unfold lastT;rw[List.all_eq_true]at h5⊢;intro d hd;have h7:=h5 d hd;rw[Bool.or_eq_true,Bool.and_eq_true,decide_eq_true_eq]at h7;rcases h7 with h7|⟨h8,h9⟩
 ·rw[h7,Bool.true_or]
 ·rw[rY hB _ d h8 h8 h9,Bool.or_true]
theorem rZ {P:Program}{Q:Exit→Act→World→Prop}{S:World→Prop}{n:Nat}{a:Act}{w:World}{B:List Nat}(hT:gj md ops=T) (hB:eI T.2 B=true) (h:ae (gj md ops=T)→ae (eI T.2 B=true)→bm P md ops Q S ds n l a w):bm P md ops Q S ds n l a w:=h ⟨hT⟩ ⟨hB⟩
end
def oc:Code→Nat→Option (Array Oper)
 | .region id ops _,k=>if id==k then some ops else none
 | .seq a b,k=>match oc a k with
  |some o=>some o
  |none=>oc b k
 | .cond _ a b,k=>match oc a k with
  |some o=>some o
  |none=>oc b k
 | .block _ c,k=>oc c k
 | .loop c,k=>oc c k
 | .scope c,k=>oc c k
 | .rangeFunc _ _ a b,k=>match oc a k with
  |some o=>some o
  |none=>oc b k
 |_,_=>none
def opsOf (f:Func) (k:Nat):Array Oper:=((f.body.bind fun c=>oc c k)).getD #[]
end Go.Proofs.ab.aV
