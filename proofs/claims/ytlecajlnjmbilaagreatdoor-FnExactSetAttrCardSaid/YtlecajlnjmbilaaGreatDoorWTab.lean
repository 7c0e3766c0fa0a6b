-- Words of the kit's print, trimmed to what this seat's texts use (wip/trim.py). No condition.
import Derived.Test.YtlecajlnjmbilaaGreatDoorWLast
import Derived.Test.YtlecajlnjmbilaaGreatDoorWWords
namespace Go.Proofs.ab.aM
open Go.Proofs.ab.aq (ae)
def ox (md:Region.Mode) (o:Oper):List Nat:=(o.after.toList.filter (fun e=>Region.binds md e)).map (fun e=>e.on)
def tD (md:Region.Mode) (ops:Array Oper) (i:Nat) (oi:Oper):List Nat:=(List.range ops.size).filter fun j=> !(j==i)&&match ops[j]? with
 |some oj=> !(oj.after.any (fun e=>Region.binds md e&&e.on==i)||oi.apart ops oj)
 |none=>false
def g_ (md:Region.Mode) (ops:Array Oper):Bool×List (List Nat×List Nat):=(Region.noSelect ops,(List.range ops.size).map fun i=>match ops[i]? with
 |some o=>(ox md o,tD md ops i o)
 |none=>([],[]))
def me (T:List (List Nat×List Nat)) (l:List Bool) (i:Nat):Bool:= !l.getD i true&&match T[i]? with
 |some r=>r.1.all (fun j=>l.getD j false)
 |none=>false
def nO (T:List (List Nat×List Nat)) (l:List Bool):List Nat:=(List.range T.length).filter (me T l)
def uF (T:List (List Nat×List Nat)) (l:List Bool) (i:Nat):Bool:=match T[i]? with
 |some r=>r.2.all (fun j=>l.getD j true)
 |none=>false
def qT (T:List (List Nat×List Nat)) (l:List Bool):Bool:=(List.range T.length).all fun j=> !l.getD j false||match T[j]? with
 |some r=>r.1.all (fun k=>l.getD k false)
 |none=>true
def qe (T:List (List Nat×List Nat)) (i:Nat):Nat→Nat→Bool
 |0,_=>false
 |fuel+1,d=>match T[d]? with
  |some r=>r.1.any fun j=>j==i||qe T i fuel j
  |none=>false
def lastT (T:List (List Nat×List Nat)) (l:List Bool) (ds:List Nat) (i:Nat):Bool:=ds.all fun d=>l.getD d true||qe T i T.length d
section
variable {md:Region.Mode}{ops:Array Oper}{T:Bool×List (List Nat×List Nat)}{l l' li lj lk:Array Bool}{ds:List Nat}{i j k:Nat}
theorem gd (l:Array Bool) (j:Nat) (b:Bool):l.getD j b=l.toList.getD j b:=by simp[Array.getD_eq_getD_getElem?,List.getD_eq_getElem?_getD]
theorem sK (o:Oper) (p:Nat→Bool):o.after.all (fun e=> !Region.binds md e||p e.on)=(ox md o).all p:=by
 unfold ox;rw[←Array.all_toList]
 induction o.after.toList with
 |nil=>rfl
 |cons e r ih=>
  rw[List.all_cons,ih,List.filter_cons]
  cases h:Region.binds md e<;>simp
theorem xS (o:Oper) (p:Nat→Bool):o.after.any (fun e=>Region.binds md e&&p e.on)=(ox md o).any p:=by
 unfold ox;rw[←Array.any_toList]
 induction o.after.toList with
 |nil=>rfl
 |cons e r ih=>
  rw[List.any_cons,ih,List.filter_cons]
  cases h:Region.binds md e<;>simp
theorem mf:(g_ md ops).2.length=ops.size:=by simp[g_]
theorem oy {o:Oper}(h:ops[i]? =some o):(g_ md ops).2[i]? =some (ox md o,tD md ops i o):=by
 have hi:=(Array.getElem?_eq_some_iff.1 h).1;unfold g_;rw[List.getElem?_map,List.getElem?_range hi,Option.map_some,h]
theorem oz (h:ops[i]? =none):(g_ md ops).2[i]? =none:=by
 have hi:ops.size≤i:=Array.getElem?_eq_none_iff.1 h;exact List.getElem?_eq_none (by rw[mf];exact hi)
theorem vY:me (g_ md ops).2 l.toList i=(!l.getD i true&&((ops[i]?).map (·.after.all fun e=> !Region.binds md e||l.getD e.on false)).getD false):=by
 unfold me;rw[gd]
 cases h:ops[i]? with
 |none=>rw[oz h];rfl
 |some o=>
  rw[oy h];simp only[Option.map_some,Option.getD_some];rw[←sK];simp only[gd]
theorem ready_eq:Region.ready md ops l=nO (g_ md ops).2 l.toList:=by
 unfold Region.ready nO;rw[mf];refine List.filter_congr (fun i _=> ?_);rw[vY]
theorem free_eq:Region.free md ops l i=uF (g_ md ops).2 l.toList i:=by
 unfold Region.free uF
 cases h:ops[i]? with
 |none=>rw[oz h]
 |some oi=>
  rw[oy h];simp only[tD];rw[List.all_filter]
  congr 1
  funext j
  rw[gd]
  cases hj:ops[j]? with
  |none=>cases (j==i)<;>cases (l.toList.getD j true)<;>simp
  |some oj=>
   cases (j==i)<;>cases (l.toList.getD j true)<;>cases (oj.after.any (fun e=>Region.binds md e&&e.on==i)||oi.apart ops oj)<;>simp_all
theorem xT:Region.pI md ops l=qT (g_ md ops).2 l.toList:=by
 unfold Region.pI qT;rw[mf]
 congr 1
 funext j
 rw[gd]
 cases h:ops[j]? with
 |none=>rw[oz h]
 |some o=>
  rw[oy h];simp only;rw[←sK];simp only[gd]
theorem reach_eq:∀(fuel d:Nat),Region.lz md ops i fuel d=qe (g_ md ops).2 i fuel d
 |0,_=>rfl
 |fuel+1,d=>by
  unfold Region.lz qe
  cases h:ops[d]? with
  |none=>rw[oz h]
  |some o=>
   rw[oy h];simp only;rw[←xS]
   congr 1
   funext e
   rw[reach_eq fuel]
theorem ab5:Region.lastB md ops l ds i=lastT (g_ md ops).2 l.toList ds i:=by
 unfold Region.lastB lastT;rw[mf]
 congr 1
 funext d
 rw[gd,reach_eq]
theorem qo (h:me T.2 l.toList i=true) (hT:g_ md ops=T):(Region.ready md ops l).contains i=true:=by
 subst hT;rw[ready_eq];unfold nO;rw[List.contains_iff_mem,List.mem_filter,List.mem_range];refine⟨?_,h⟩;unfold me at h;rw[Bool.and_eq_true]at h
 cases hq:(g_ md ops).2[i]? with
 |none=>rw[hq]at h;simp at h
 |some r=>exact(List.getElem?_eq_some_iff.1 hq).1
theorem ry (h:(l.toList.set i true==l'.toList)=true):(l.setIfInBounds i true==l')=true:=by
 rw[beq_iff_eq]at h⊢
 apply Array.ext'
 rw[Array.toList_setIfInBounds];exact h
def abX (T:Bool×List (List Nat×List Nat)) (l l':List Bool) (i:Nat):Bool:=T.1&&uF T.2 l i&&me T.2 l i&&(l.set i true==l')
theorem aag (hT:g_ md ops=T) (h:abX T l.toList l'.toList i=true):aak md ops l l' i=true:=by
 simp only[abX,Bool.and_eq_true]at h;obtain⟨⟨⟨h1,h2⟩,h3⟩,h4⟩:=h;have h5:=qo h3 hT;have h6:=ry h4;subst hT;simp only[aak,Bool.and_eq_true];exact⟨⟨⟨h1,by rw[free_eq];exact h2⟩,h5⟩,h6⟩
def aaD (T:Bool×List (List Nat×List Nat)) (ds:List Nat) (l l':List Bool) (i:Nat):Bool:=T.1&&uF T.2 l i&&me T.2 l i&&qT T.2 l&&lastT T.2 l ds i&&(l.set i true==l')
theorem ab6 (hT:g_ md ops=T) (h:aaD T ds l.toList l'.toList i=true):takeB md ops ds l l' i=true:=by
 simp only[aaD,Bool.and_eq_true]at h;obtain⟨⟨⟨⟨⟨h1,h2⟩,h3⟩,h4⟩,h5⟩,h6⟩:=h;have h7:=qo h3 hT;have h8:=ry h6;subst hT;simp only[takeB,Bool.and_eq_true];exact⟨⟨⟨⟨⟨h1,by rw[free_eq];exact h2⟩,h7⟩,by rw[xT];exact h4⟩,by rw[ab5];exact h5⟩,h8⟩
theorem th (hT:g_ md ops=T) (h:(nO T.2 l.toList==[i]&&l.toList.set i true==l'.toList)=true):pk md ops l l' i=true:=by
 simp only[Bool.and_eq_true]at h;obtain⟨h1,h2⟩:=h;subst hT;simp only[pk,Bool.and_eq_true];exact⟨by rw[ready_eq];exact h1,ry h2⟩
theorem adg (hT:g_ md ops=T) (h:(nO T.2 l.toList==[i,j]&&l.toList.set i true==li.toList&&l.toList.set j true==lj.toList)=true):(Region.ready md ops l==[i,j]&&l.setIfInBounds i true==li&&l.setIfInBounds j true==lj)=true:=by
 simp only[Bool.and_eq_true]at h⊢;obtain⟨⟨h1,h2⟩,h3⟩:=h;subst hT;exact⟨⟨by rw[ready_eq];exact h1,ry h2⟩,ry h3⟩
theorem abY (hT:g_ md ops=T) (h:(nO T.2 l.toList==[])=true):(Region.ready md ops l==[])=true:=by
 subst hT;rw[ready_eq];exact h
def upM (B:List Nat) (d:Nat):List Nat→Nat
 |[]=>0
 |n::r=>(2^n|||(if n<d then B.getD n 0 else 0))|||upM B d r
def eX (T:List (List Nat×List Nat)) (B:List Nat):Bool:=(List.range T.length).all fun d=>match T[d]? with
 |some r=>(B.getD d 0|||upM B d r.1)==upM B d r.1
 |none=>false
theorem xj {B:List Nat}{d i:Nat}:∀{ns:List Nat},(upM B d ns).testBit i=true→∃n∈ns,n=i∨(n<d∧(B.getD n 0).testBit i=true)
 |[],h=>by simp[upM]at h
 |n::r,h=>by
  unfold upM at h;rw[Nat.testBit_or,Nat.testBit_or,Bool.or_eq_true,Bool.or_eq_true]at h;rcases h with(h|h)|h
  ·rw[Nat.testBit_two_pow]at h;exact⟨n,List.mem_cons_self,.inl (by simpa using h)⟩
  ·by_cases hn:n<d
   ·rw[if_pos hn]at h;exact⟨n,List.mem_cons_self,.inr ⟨hn,h⟩⟩
   ·rw[if_neg hn]at h;simp at h
  ·obtain⟨m,hm,h2⟩:=xj h;exact⟨m,List.mem_cons_of_mem _ hm,h2⟩
theorem sL {T:List (List Nat×List Nat)}{B:List Nat}(hB:eX T B=true):∀(fuel d:Nat),d<fuel→d<T.length→(B.getD d 0).testBit i=true→qe T i fuel d=true
 |0,d,h,_,_=>by omega
 |fuel+1,d,h,hd,hb=>by
  have h1:=List.all_eq_true.1 hB d (List.mem_range.2 hd)
  cases hr:T[d]? with
  |none=>rw[hr]at h1;simp at h1
  |some r=>
   rw[hr]at h1;simp only[beq_iff_eq]at h1
   have h2:(upM B d r.1).testBit i=true:=by rw[←h1,Nat.testBit_or,hb,Bool.true_or]
   obtain⟨n,hn,h3⟩:=xj h2;unfold qe;rw[hr];simp only;rw[List.any_eq_true];refine⟨n,hn,?_⟩;rcases h3 with rfl|⟨h4,h5⟩
   ·simp
   ·rw[sL hB fuel n (by omega) (by omega) h5,Bool.or_true]
def acD (T:List (List Nat×List Nat)) (B:List Nat) (l:List Bool) (ds:List Nat) (i:Nat):Bool:=ds.all fun d=>l.getD d true||(decide (d<T.length)&&(B.getD d 0).testBit i)
def aah (T:Bool×List (List Nat×List Nat)) (B:List Nat) (ds:List Nat) (l l':List Bool) (i:Nat):Bool:=T.1&&uF T.2 l i&&me T.2 l i&&qT T.2 l&&acD T.2 B l ds i&&(l.set i true==l')
theorem aaj {B:List Nat}(hT:g_ md ops=T) (hB:eX T.2 B=true) (h:aah T B ds l.toList l'.toList i=true):takeB md ops ds l l' i=true:=by
 refine ab6 hT ?_;simp only[aah,aaD,Bool.and_eq_true]at h⊢;obtain⟨⟨⟨⟨⟨h1,h2⟩,h3⟩,h4⟩,h5⟩,h6⟩:=h;refine⟨⟨⟨⟨⟨h1,h2⟩,h3⟩,h4⟩,?_⟩,h6⟩;unfold acD at h5;unfold lastT;rw[List.all_eq_true]at h5⊢;intro d hd;have h7:=h5 d hd;rw[Bool.or_eq_true,Bool.and_eq_true,decide_eq_true_eq]at h7;rcases h7 with h7|⟨h8,h9⟩
 ·rw[h7,Bool.true_or]
 ·rw[sL hB _ d h8 h8 h9,Bool.or_true]
theorem sM {P:Program}{Q:Exit→Act→World→Prop}{S:World→Prop}{n:Nat}{a:Act}{w:World}{B:List Nat}(hT:g_ md ops=T) (hB:eX T.2 B=true) (h:ae (g_ md ops=T)→ae (eX T.2 B=true)→bq P md ops Q S ds n l a w):bq P md ops Q S ds n l a w:=h ⟨hT⟩ ⟨hB⟩
end
def oZ:Code→Nat→Option (Array Oper)
 | .region id ops _,k=>if id==k then some ops else none
 | .seq a b,k=>match oZ a k with
  |some o=>some o
  |none=>oZ b k
 | .cond _ a b,k=>match oZ a k with
  |some o=>some o
  |none=>oZ b k
 | .block _ c,k=>oZ c k
 | .loop c,k=>oZ c k
 | .scope c,k=>oZ c k
 | .rangeFunc _ _ a b,k=>match oZ a k with
  |some o=>some o
  |none=>oZ b k
 |_,_=>none
def opsOf (f:Func) (k:Nat):Array Oper:=((f.body.bind fun c=>oZ c k)).getD #[]
end Go.Proofs.ab.aM
