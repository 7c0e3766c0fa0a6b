/- FnExactMakeFile returns true for every table and string: the program's MakeFile and the reference's answer alike, the table is left as it was, and the answer is new memory. No condition. -/
import Derived.Test.YtlecajlnjmbilaaGreatDoorAskFnExactMakeFile
import Derived.Test.YtlecajlnjmbilaaGreatDoorQ
set_option linter.all false
namespace Go.Proofs.YtlecajlnjmbilaaGreatDoor.Pure
open Go.RowKit Go.Proofs.YtlecajlnjmbilaaGreatDoor.P Go.Proofs.YtlecajlnjmbilaaGreatDoor.Q Go.Proofs.YtlecajlnjmbilaaGreatDoor.Kinds Go.Proofs.ab.aq Go.Proofs.ab.aH Go.Proofs.ab.aK

theorem abb (T:List bf) (nx:Int) (p:ByteArray) (kind:Int) (hT:T.length≤1048576) (hA:∀x∈T,ia x) (hw:cX T≤1000000000000):Bd (lX T nx p kind).1:=by
  have hb:=Bd.of T hT hA hw;unfold lX
  by_cases c:kR T nx [p]=true∧p.toList≠([47]:List UInt8)
  · rw[if_pos c];have h30:=tu T nx [p] c.1
    split
    · rename_i c1
      split
      · split
        · exact hb
        · have hx:=oO T p hA;have t:=lK T nx ((ready_one T nx p).1 c.1).1;have h10:=(nH _ (t.ok _ (sg T p c1).1)).1;have hl:=nj (ff T p).2.1 nx (ff T p).1.f4;exact Bd.set2 T (oU (ff T p).1 (nI (ff T p).2.1 nx (ff T p).1.f4)) ⟨nx,kind,1,[],[],[]⟩ (by omega) hA hw ⟨hx.d,by show(nI _ _ _).length≤1048576;omega,hx.t⟩ ⟨by simp,by simp,by simp⟩
      · exact hb
    · exact hb
  · rw[if_neg c];exact hb
theorem FnExactMakeFile:AskFnExactMakeFile.Pure:=by
  rintro⟨l,nx⟩ s ⟨⟨hl,hg⟩,hn⟩ _;have hM:maxLen=9223372036854775807:=rfl;simp only[hM]at hl
  apply Ev.rounds
  unfold cw.f;refine wX (fun _=>Ev.now _) (fun hsz=> ?_);obtain⟨R,hR,hz,_⟩:=abc l nx 1048576 (by omega) (by omega) hl (abd l hg);refine Ev.bind hR (wX (fun _=>Ev.now _) (fun h=> ?_));have hz:=hz (by omega);obtain⟨h1,h2⟩:=yH l (by omega);have ht:=abe l nx h1 (acf l h2);have hs:=abf l h2
  have hlen:(l.map kj).length≤1048576:=by simpa using h1
  have hA:∀x∈l.map kj,ia x:=fun x hx=>(hs x hx).a
  have hw:=abg l
  have hw2:cX (l.map kj)≤1000000000000:=by omega
  have g1:=ue (l.map kj) nx s hlen hs (by omega);have g2:=uf (l.map kj) nx s hlen hs (by omega);have hb:=abb (l.map kj) nx s 1 hlen hA hw2;generalize lX (l.map kj) nx s 1=X at g1 g2 hb;exact Ev.bind ht (Ev.bind g1 (Ev.bind g2 (acg (l.map kj) nx X.1 X.2.1 X.2.2 hlen hA hw2 hb)))
end Go.Proofs.YtlecajlnjmbilaaGreatDoor.Pure
