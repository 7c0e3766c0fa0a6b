/- FnExactWriteAt returns true for every table, string, number and bytes: the program's WriteAt and the reference's answer alike, table and bytes are left as they were, and the answer is new memory. No condition. -/
import Derived.Test.YtlecajlnjmbilaaGreatDoorAskFnExactWriteAt
import Derived.Test.YtlecajlnjmbilaaGreatDoorQ
set_option linter.all false
namespace Go.Proofs.YtlecajlnjmbilaaGreatDoor.Pure
open Go.RowKit Go.Proofs.YtlecajlnjmbilaaGreatDoor.P Go.Proofs.YtlecajlnjmbilaaGreatDoor.Q Go.Proofs.YtlecajlnjmbilaaGreatDoor.Kinds Go.Proofs.ae.au Go.Proofs.ae.ba Go.Proofs.ae.bg

theorem xk (T:List bh) (nx:Int) (p:ByteArray) (o:Int) (x:List Int) (hT:T.length≤1048576) (hA:∀x∈T,gv x) (hw:cN T≤1000000000000):Bd (nj T nx p o x).1:=by
  have hf:=nU T p hA;unfold nj
  split
  · split
    · split
      · exact Bd.of T hT hA hw
      · refine Bd.set1 T _ hT hA hw ⟨?_,hf.e,hf.t⟩
        show(uf _ _ _).length≤1048576
        have hd:=hf.d;rw[uf];simp only[List.length_append,List.length_take,List.length_drop,pv]
        omega
    · exact Bd.of T hT hA hw
  · exact Bd.of T hT hA hw
theorem aa_ (T:List bh) (nx:Int) (u:List Int) (Y:List bh) (m c:Int) (hT:T.length≤1048576) (hA:∀x∈T,gv x) (hw:cN T≤1000000000000) (hu:u.length≤1048576) (hY:Bd Y):
    Ev (fun k=>(fv.f k Y m Y m).bind fun e1=>(fv.f k T nx T nx).bind fun e2=>(cO.f k u u).bind fun e3=>(eo.f k T 1).bind fun mt=>(cI.f k u mt.1).bind fun mb=>(eo.f k Y 1).bind fun mm=>(eS.f k mm.2 m 1).bind fun q=>
      if c=c∧e1=true∧e2=true∧e3=true∧¬mb.1<0∧¬q<0∧q=mm.1∧mm.2.length=Y.length then some true else none) true:=by
  have hl2:=hY.len;have hw2:=hY.w;obtain⟨mt,m1,_,_,_⟩:=aba T 1 hT (by omega) (by omega);obtain⟨mg,m2,k2,k3,hh⟩:=sr Y 1 hl2 (by omega) (by omega);have m3:=xl mg m 1 (by omega) (by omega) (by omega) hh;rw[k3]at m3;have he:=ri u u (by omega);rw[decide_eq_true (rfl:u=u)]at he;refine Ev.bind (rj Y m (by omega) (rm hY.a)) (Ev.bind (rj T nx (by omega) (rm hA)) (Ev.bind he (Ev.bind m1 (Ev.bind (pw u (1+cN T) (by omega) (by omega)) (Ev.bind m2 (Ev.bind m3 (bs ?_ (Ev.now _))))))));exact⟨rfl,rfl,rfl,rfl,by dsimp only;omega,by omega,rfl,k2⟩
theorem FnExactWriteAt:AskFnExactWriteAt.Pure:=by
  rintro⟨l,nx⟩ s n x ⟨⟨hl,hg⟩,hn⟩ _ _ ⟨hx,_⟩;have hM:maxLen=9223372036854775807:=rfl;simp only[hM]at hl hx
  apply Ev.rounds
  unfold cA.f;refine ug (fun _=>Ev.now _) (fun hsz=> ?_);refine ug (fun _=>Ev.now _) (fun hsx=> ?_);obtain⟨R,hR,hz,_⟩:=abb l nx 1048576 (by omega) (by omega) hl (abc l hg);refine Ev.bind hR (ug (fun _=>Ev.now _) (fun h=> ?_));have hz:=hz (by omega);obtain⟨h1,h2⟩:=xm l (by omega);have ht:=abd l nx h1 (ab_ l h2);have hs:=abe l h2
  have hlen:(l.map jt).length≤1048576:=by simpa using h1
  have hA:∀x∈l.map jt,gv x:=fun x hx=>(hs x hx).a
  have hw:=abf l
  have hw2:cN (l.map jt)≤1000000000000:=by omega
  have g1:=vB (l.map jt) nx s n x hlen hs (by omega) (by omega);have g2:=vC (l.map jt) nx s n x hlen hs (by omega) (by omega);have hb:=xk (l.map jt) nx s n x hlen hA hw2;generalize nj (l.map jt) nx s n x=X at g1 g2 hb;exact Ev.bind ht (Ev.bind (rn x (by omega)) (Ev.bind g1 (Ev.bind g2 (aa_ (l.map jt) nx x X.1 X.2.1 X.2.2 hlen hA hw2 (by omega) hb))))
end Go.Proofs.YtlecajlnjmbilaaGreatDoor.Pure
